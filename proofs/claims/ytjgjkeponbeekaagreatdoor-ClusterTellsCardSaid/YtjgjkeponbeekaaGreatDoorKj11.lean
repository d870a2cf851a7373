import Derived.Test.YtjgjkeponbeekaaGreatDoorKj10
import Derived.Lib.AppendIntMem
import Derived.Laws.Concat
import Derived.Shelf.SlSortCmp.WholeK
import Derived.Shelf.SlMaps.Clone
import Derived.Ground.SlsfProg
import Derived.Ground.SlmcProg
import Derived.Shelf.SlGeneric
import Derived.Shelf.SlSortCmp.NoneTotal
import Derived.Laws.StructEq
import Derived.Carry
import Derived.SizedLaws
import Derived.WalkKit
import Derived.ProofKit
import Derived.OpenShut
import Derived.Deep.DeepHandedRow
import Derived.Deep.Slices
set_option maxHeartbeats 4000000
set_option linter.all false
set_option maxRecDepth 100000
open Go.IntKind renaming wrap→PP
namespace Go.Proofs.YtjgjkeponbeekaaGreatDoor
open Go.aw
def ir(n:List (ByteArray×ox)):Nat:=(n.map λP=>P.2.f.bytes.length).sum
def EK(n:List (ByteArray×ox)):ir n=eZ (n.map vX):=by unfold ir eZ;rw[List.map_map];rfl
variable{w:ByteArray}{f7 h1:List (ByteArray×Value)}{a3:List (ByteArray×ox)}{u:List UInt8}{a c i:Nat}{Z f:UK}{d:bc}{j:Type}{v:Value}{b:World}
def xS{left:List (ByteArray×ox)}(c:left.map eF=f7++(w,v)::h1):
  ∃n P a,left=n++(w,P)::a/\f7=n.map eF/\h1=a.map eF/\v=ptr P.q:=by
 obtain⟨n,j,d,e,f⟩:=List.map_eq_append_iff.1 c;obtain⟨g,a,h,b,i⟩:=List.map_eq_cons_iff.1 f;obtain⟨k,P⟩:=g;simp only[eF,Prod.mk.injEq]at b;obtain⟨rfl,rfl⟩:=b;exact⟨n,P,a,by rw[d,h],e.symm,i.symm,rfl⟩
def Pe{D:ak}(g:aV b a f D):
  be 239 #[RK a] b (Ok λj h=>j= WP D.room/\ai b h):=by
 obtain⟨k,P,c⟩:=g.open;have Q:=c.ok.most;have l:=c.ok.fits;unfold ak.used at l;rw[c.files,<-EK]at l;refine vM ⟨a,0,rfl,_,ae c.head rfl,a,0,rfl,some k,ae c.head rfl,mapRange mF c.map λR v w S=>?_⟩;refine⟨λm o h=>∃left:List (ByteArray×ox),cV h b.heap.size k Value.string (P.map eF) (left.map eF)/\m=left.length/\o=(D.most:Int)-ir P+ir left/\ir left<=ir P/\ai b h/\∀n∈left,n∈P,
  ⟨_,P,v,rfl,oM,Q4 _,w,λ_ g=>g⟩,?_⟩
 rintro m o T U ⟨left,x,rfl,rfl,V,p,q⟩;refine oy x (λy=>.inl ⟨rfl,Ok.mk ⟨?_,p⟩⟩) λi j W X r z A B C Y=>.inr ⟨_,_,rfl,rA B ?_⟩
 ·have:left=[]:=by simpa using y
  subst this;simp only[ir,List.map_nil,List.sum_nil,ak.room,ak.used];rw[c.files,<-EK];simp[ir]
 ·obtain⟨e,n,d,rfl,rfl,rfl,rfl⟩:=xS z
  have E:(i,n)∈P:=q _ sM;have s:ai b r:=p.new C λd Z=>.inr oM;have F:eM r n.q n.G n.f:=(c.each.each _ E).keep s λ_ _ g=>g;obtain⟨H,t,I,F0,J,K,h3,h4⟩:=F.body;have L:=K.len dC;have M:ir (e++(i,n)::d)=ir (e++d)+n.f.bytes.length:=by simp[ir];omega
  have N:PP .i64 ((D.most:Int)-ir P+ir (e++(i,n)::d)-((t:Nat):Int))=(D.most:Int)-ir P+ir (e++d):=by
   rw[wrap_i64 cw,L,M];omega
  refine⟨_,_,rfl,n.q,0,rfl,H,t,I,ae J rfl,(e++d).length,sM,e++d,?_,rfl,N,oM,s,λO u=>q O ?_⟩
  ·rw[Q3];exact A
  ·simp only[Q6,Q2]at u⊢;exact u.imp id .inr
def yH{D:ak}(h:aV b a f D)(P:Row gw 1 b Z d c u)(X:d=none->c=0/\i=0)(x:∀n,Z n->n<b.heap.size/\¬f n):
  be 178 #[RK a,.string w,.slice d c i] b (Ok (vY b a f (D.append w u))):=by
 have K:=P.len;have Y:=P.fh;unfold aR at Y;refine sU (PA.mk λw1 y s1 L=>PA.mk λw2 k s2 g2=>⟨_,ae (k.get L id) rfl,PC.ok (vZ ((h.af y).af k) (k:=w) (g:=238)
  (body:=λD M=>if(u.length:Int)>D.room then(12,D)else(0,D.fy w {M with bytes:=M.bytes++u})) kR λhd r a0 b5 e g z s=>?_) λa1 w' h=>mR a1 w' (y.af k) h⟩)
 have e1:=s.get (k.get L id) λP=>by have:=h.aF _ P;omega
 have N:=s.get g2 λP=>by have:=h.aF _ P;omega
 have a4:Row gw 1 r Z d c u:=((P.af y).af k).keep s λn P=>(x n P).2;have A:=g.get z;refine qw λw4 t=>⟨λ_=>False,id,d,c,i,ae (t.keep (S:=λ_=>False)|>.get N id) rfl,_,ae (t.keep (S:=λ_=>False)|>.get e1 id) rfl,PC.ok (Pe (g.af t.keep).at) ?_⟩
 rintro _ w5 ⟨rfl,O⟩;have B:ai r w5:=(cf.keep t).then O;refine⟨_,rfl,O,al.dec (λa5=>Ok.mk ?_) (λa6=>λl a7=>?_)⟩
 ·rw[Zx (by rw[<-K];exact a5)]
  exact⟨f,rfl,(g.af B).at,B.keep,λ_ h=>.inl h⟩
 ·have m:ai r l:=B.af a7.keep
  have C:=g.af m;have Q:=cy z;have E:eM l e.q e.G e.f:=C.each.each _ Q;obtain⟨v,R,fc,F0,F,o,H,S⟩:=E.body;have b6:=o.len dC;have b7:e.f.bytes.length<=262144:=g.ok.len (cy A);have a8:∀n,e.G n->f n/\n≠a/\n≠a0:=C.Jg _ Q;refine⟨e.q,0,rfl,v,R,fc,ae F rfl,d,c,i,ae (m.get N id) rfl,?_⟩;have a2:∀n,Z n->n<l.heap.size/\aG v≠some n:=λn P=>⟨by have:=(x n P).1;have:=s.size;have:=m.size;omega,λj=>(x n P).2 (a8 n (H n (o.self n j))).1⟩
  have b8:D.cT.room<=262144:=by have:=g.ok.most;unfold ak.room;omega
  refine Ay o tY (a4.af m) X a2 ce (by unfold maxLen;omega) λp c' w7 F' I J _ T=>?_;have hq:aG v≠some e.q:=λj=>S (o.self _ j);have b9:=aA F;have q:aG p≠some e.q:=λj=>by rcases T _ j with h|h;exact S h;omega
  refine⟨_,_,_,rfl,e.q,0,rfl,PS.mk (J.get F hq) sM λU V s8 g8=>Ok.mk ?_⟩;have W:¬((u.length:Int)>D.cT.room):=by rw[<-K];exact a6
  rw[Zq W];have a9:∀n,aG v=some n->e.G n:=λn j=>H n (o.self n j);have b0:eM U e.q (λn=>n=e.q\/aG p=some n) {e.f with bytes:=e.f.bytes++u}:=
   ⟨⟨p,R+c,c',λn=>aG p=some n,g8,I.alone.keep V (λn P a3=>q (by rw[<-a3];exact P)),λn P=>.inr P,q⟩,.inl rfl,by
    rintro n (rfl|P)
    ·have:=J.size;omega
    ·have:=I.aF n (I.self n P);omega⟩
  have b1:cz e.G l (λn=>n=e.q\/aG p=some n) U:=⟨(J.mono λn _ P=>a9 n P).then (V.mono λn _ P=>P▸E.self),by
   rintro n (rfl|P)
   ·exact .inl E.self
   ·exact(T n P).imp (λh=>H n h) id⟩
  have b2:(D.cT.fy w {e.f with bytes:=e.f.bytes++u}).Ok:=g.ok.set A (by
   unfold ak.room at W;simp only[QX];omega) (by have:=g.ok.TD _ (cy A);simp only[QX];show e.f.synced<=_;have h':e.f.synced<=e.f.bytes.length:=this;omega)
  obtain⟨F2,b3,b4⟩:=C.fj z b0 b1 b2;exact⟨F2,rfl,b3.at,(cz.mk m.keep λ_ h=>.inl h:cz f r f l).trans b4⟩
def xU{D:ak}(g:aV b a f D):
  be 162 #[RK a,.string w] b (Ok λl m=>∃i,l= .tuple #[i,WP (D.read w).2]/\qH gw 5 b (D.read w).1 i m):=by
 obtain⟨j,C,P⟩:=g.open;have n:qH gw 5 b [] (.slice none 0 0) b:=⟨none,0,0,λ_=>False,rfl,aU.nil b,aj.refl _,λ_ g=>g.elim⟩
 rcases P.box w with⟨e,h⟩|⟨d,E,o,e,h⟩
 ·refine mP ⟨a,0,rfl,some j,ae P.head rfl,AA mF kS P.map ?_⟩
  rw[h];refine⟨_,rfl,a,0,rfl,_,ae P.head rfl,al.mk (λc=>Ok.mk ?_) (λc=>ic uF ⟨_,rfl,al.tt rfl (Ok.mk ?_)⟩)⟩
  ·unfold ak.read;rw[c,Zx rfl];exact⟨_,rfl,n⟩
  ·unfold ak.read;rw[c,Zq sM,e];exact⟨_,rfl,n⟩
 ·refine mP ⟨a,0,rfl,some j,ae P.head rfl,AA mF kS P.map ?_⟩
  rw[h];refine⟨_,rfl,a,0,rfl,_,ae P.head rfl,al.mk (λc=>Ok.mk ?_) (λc=>ic uF ⟨_,rfl,al.ff rfl ?_⟩)⟩
  ·unfold ak.read;rw[c,Zx rfl];exact⟨_,rfl,n⟩
  ·have p:eM b d.q d.G d.f:=P.each.each _ o
   obtain⟨q,r,s,F,t,k,H,I⟩:=p.body;have J:d.f.bytes.length<=262144:=P.ok.len (cy e);refine⟨d.q,0,rfl,q,r,s,ae t rfl,PC.ok (lP (k.row dC ce) k.aF) ?_⟩;rintro _ K ⟨u,v,x,y,rfl,z,A,B⟩;unfold ak.read;rw[c,Zq sM,e];exact⟨_,_,_,rfl,Ok.mk ⟨_,rfl,u,v,x,y,rfl,z,A,B⟩⟩
def xV{D:ak}(j:aV b a f D):
  be 160 #[RK a] b (Ok (qH Pb 9 b D.list)):=by
 obtain⟨g,h,n⟩:=j.open;have z:=n.ok.many;have A:h.length=D.files.length:=by rw[n.files];simp
 refine vJ ⟨a,0,rfl,some g,ae n.head rfl,PC.ok (φ:=λk d=>k= .func (.func 282) #[] #[RK b.heap.size]/\ai b d/\d.heap.size=b.heap.size+1/\
  d.heap[b.heap.size]? =some (.cells #[.map (some g)] 141 (0,0))) (dY (PA.mk λl P i e=>Ok.mk ⟨rfl,P,i,e⟩)) ?_⟩
 rintro _ l ⟨rfl,P,i,e⟩;refine⟨_,rfl,PC.ok (Ah (n.map.af P) (λB m=>?_) (by rw[Q8];unfold aR;omega) e) ?_⟩
 ·obtain⟨c,o,rfl⟩:=Xk.1 m
  have:=n.ok.names (vX c) (by rw[n.files];exact Xk.2 ⟨c,o,rfl⟩);unfold cU at this;simp only[QK,Zk]at this;have C:c.1.size<=16:=this.1.2;show c.1.size<=maxLen;unfold maxLen;omega
 ·rintro _ E ⟨p,q,r,s,rfl,t,u,v⟩
  refine⟨_,_,_,rfl,Ok.mk ⟨p,q,r,s,rfl,?_,P.af u,λw x=>by have:=v w x;omega⟩⟩;have y:tA ((h.map eF).map (·.1))=D.list:=by unfold ak.list;rw[n.files,List.map_map,List.map_map];rfl
  rw[<-y];exact t
def Jj{n:List (ByteArray×j)}(P:Tidy n)(a:ByteArray):bK n a=n.filter λb=>b.1 !=a:=by
 induction n with
 |nil=>rfl
 |cons f n e=>
  obtain⟨b,k⟩:=f;unfold Tidy at P e;simp only[QY,List.nodup_cons]at P;unfold bK
  by_cases c:(a==b)=true
  ·rw[Zx c]
   have g:a=b:=eq_of_beq c;subst g;rw[List.filter_cons_of_neg sM];exact(List.filter_eq_self.2 λh i=>by
    simp only[bne_iff_ne,ne_eq];intro d;exact P.1 (d▸Xk.2 ⟨h,i,rfl⟩)).symm
  ·rw[Zq c,e P.2,List.filter_cons_of_pos]
   simp only[bne_iff_ne,ne_eq];intro d;exact c (by rw[d];simp)
def stays(left:List (ByteArray×ox))(n:ByteArray×ox):Bool:=n.2.f.jP||left.any λP=>P.1==n.1
def Ai(J:bU b a Value.string (a3.map eF))(l:EI b a3)(K:∀n∈a3,∀c,n.2.G c->c≠a):
  be 137 #[.map (some a),.func (.func 138) #[] #[]] b
   (Ok λo h=>o= .tuple #[]/\bU h a Value.string ((a3.filter λn=>n.2.f.jP).map eF)/\aj (·=a) b h):=by
 have L:enters LL 138=true:=kR
 refine dm (mapRange mF J λw1 M N s1=>?_);refine⟨λu h=>∃left:List (ByteArray×ox),cV h b.heap.size a Value.string ((a3.filter (stays left)).map eF) (left.map eF)/\u=left.length/\aj (·=a) b h/\(∀n∈left,n∈a3)/\Tidy left,
  ⟨_,a3,?_,rfl,N.keep,λ_ O=>O,l.tidy⟩,?_⟩
 ·have i:a3.filter (stays a3)=a3:=List.filter_eq_self.2 λn m=>by
   unfold stays;rw[Bool.or_eq_true];exact .inr (List.any_eq_true.2 ⟨n,m,sM⟩)
  rw[i];exact M
 ·rintro u a0 w2 ⟨left,p,rfl,v,w,j⟩
  refine oy p (λk=>.inl ⟨rfl,Ok.mk ⟨rfl,?_,v⟩⟩) λd o l1 l2 r Q x R S s3=>.inr ⟨_,_,rfl,rA R ?_⟩
  ·have:left=[]:=by simpa using k
   subst this;have i:(a3.filter (stays []))=a3.filter λn=>n.2.f.jP:=List.filter_congr λn _=>by simp[stays]
   rw[i]at p;exact p.map
  ·obtain⟨e,n,c,rfl,rfl,rfl,rfl⟩:=xS Q
   have m:(d,n)∈a3:=w _ sM;have a6:b.heap.size≠a:=p.ne;have s:aj (·=a) b r:=v.new S λc y=>.inr oM;have T:eM r n.q n.G n.f:=(l.each _ m).keep s λc y=>K _ m c y;obtain⟨fa,fn,fc,F0,q,z,h3,h4⟩:=T.body;have A:d∉(e++c).map (·.1):=by
    unfold Tidy at j;rw[Q3,QY]at j;rw[Q3];intro U;have V:=(List.perm_middle (a:=d) (l₁:=e.map (·.1)) (l₂:=c.map (·.1))).nodup_iff.1 j;exact(List.nodup_cons.1 V).1 U
   have B:∀P∈a3,P.1≠d->stays (e++(d,n)::c) P=stays (e++c) P:=λP f g=>by
    unfold stays
    congr 1
    have:(d==P.1)=false:=beq_false_of_ne (Ne.symm g);simp[List.any_append,this]
   have C:∀P∈a3,P.1=d->P=(d,n):=λP f k=>by
    have q:=ry l.tidy (k:=P.1) (v:=P.2) f;have z:=ry l.tidy (k:=d) (v:=n) m;rw[k,z]at q;exact Prod.ext k (XJ q).symm
   have W:(e++c).any (λP=>P.1==d)=false:=by
    rw[List.any_eq_false];intro P f k;exact A (Xk.2 ⟨P,f,eq_of_beq k⟩)
   have E:Tidy (e++c):=by
    unfold Tidy at j⊢;rw[Q3,QY]at j;rw[Q3];exact(List.nodup_cons.1 ((List.perm_middle (a:=d) (l₁:=e.map (·.1)) (l₂:=c.map (·.1))).nodup_iff.1 j)).2
   have F:∀P∈e++c,P∈a3:=λP f=>w P (by simp only[Q6,Q2]at f⊢;exact f.imp id .inr);have H:(e++c).length<(e++(d,n)::c).length:=sM
   refine⟨_,_,rfl,_,_,_,rfl,L,PC.ok (φ:=λo h=>o= .bool (!n.f.jP)/\h=r) (q_ ⟨n.q,0,rfl,_,ae q rfl,Ok.mk ⟨rfl,rfl⟩⟩) ?_⟩;rintro _ _ ⟨rfl,rfl⟩;refine⟨_,rfl,al.not (al.mk (λt=>⟨_,H,e++c,?_,rfl,s,F,E⟩) (λt=>?_))⟩
   ·have i:a3.filter (stays (e++(d,n)::c))=a3.filter (stays (e++c)):=List.filter_congr λP f=>by
     by_cases g:P.1=d
     ·rw[C P f g];simp[stays,t]
     ·exact B P f g
    rw[Q3,<-i];exact x
   ·refine RW mF kS x (by rw[<-Q3];simpa[eF,Function.comp_def]using A) λw4 I X s4=>⟨_,H,e++c,?_,rfl,s.then X,F,E⟩
    have i:bK ((a3.filter (stays (e++(d,n)::c))).map eF) d=(a3.filter (stays (e++c))).map eF:=by
     have Y:bK ((a3.filter (stays (e++(d,n)::c))).map eF) d=(bK (a3.filter (stays (e++(d,n)::c))) d).map eF:=(BT (λn:ox=>ptr n.q) _ d).symm;have Z:Tidy (a3.filter (stays (e++(d,n)::c))):=List.Nodup.sublist (List.Sublist.map _ List.filter_sublist) l.tidy;rw[Y,Jj Z,List.filter_filter]
     congr 1
     refine List.filter_congr λP f=>?_
     by_cases g:P.1=d
     ·rw[C P f g]
      simp only[stays,t,W,Bool.or_false,bne_self_eq_false,Bool.false_and]
     ·rw[B P f g]
      have:(P.1 !=d)=true:=by simpa using g
      rw[this,Bool.true_and]
    rw[i,<-Q3]at I;exact I
end Go.Proofs.YtjgjkeponbeekaaGreatDoor
namespace Go.aw
open Go
def cH(n:List UInt8):ByteArray:=⟨n.toArray⟩
def oE(n:List UInt8):(cH n).data.toList=n:=by simp[cH]
def WQ(n:ByteArray):cH n.data.toList=n:=by simp[cH]
variable{b0 u:List UInt8}{a:Nat}{X a1:Operand}{h:Program}{g:TypeId}{o t:ac}{b:World}
def NR(n:cH u=cH b0):u=b0:=by rw[<-oE u,n,oE]
def jm(n:List UInt8):(cH n).size=n.length:=by simp[cH,ByteArray.size]
def ig(n:ByteArray):Int×Bool:=match jE n.data.toList with
 |some P=>(P,true)
 |none=>(0,false)
def ZN{a n:List UInt8}(c:a.length+n.length<=1000000000)(P:o (.string (cH (a++n))) b):
  aK h (do eqGuard .add g X a1 (.string (cH a)) (.string (cH n));binOp .add g (.string (cH a)) (.string (cH n))) b o t:=by
 refine aK.mk (v:=.string (cH a++cH n)) (w':=b) ?_ ?_
 ·rw[Sem.run_bind,show(eqGuard .add g X a1 (.string (cH a)) (.string (cH n))).run h b= .ok () b from rfl,Result.andThen_ok,binOp_string_add,run_string_add_sum b (cH a) (cH n) (by rw[jm,jm];omega)]
 have:cH a++cH n=cH (a++n):=by
  apply ByteArray.ext;simp[cH]
 rw[this];exact P
def ai.U_{n:Array Obj}:ai b (Sort.grow (b.drewN a) n):=
 ⟨rfl,rfl,rfl,sM,λc P _=>by rw[Sort.heap_grow_old _ _ (by simpa using P)];rfl⟩
end Go.aw
namespace Go.Proofs.YtjgjkeponbeekaaGreatDoor
section
open Go.aw
structure Laid (w:World):Prop where
 qg:qT w
 pow:Lib.TabIs LL w "internal/strconv.uint64pow10" .u64 Lib.pow10Tab
variable{w:ByteArray}{e:Int}{b0 u:List UInt8}{b k:World}
def Laid.af(n:Laid b)(P:ai b k):Laid k:=⟨n.qg.af P,Lib.tabBelow_of_tabIs n.pow k P.below⟩
def strconv_Itoa{n:Int}{P:World}(c:Laid P)(a:aM n):be 213 #[WP n] P (Ok λd b=>d= .string (cH (Lib.itoa n))/\ai P b):=by
 refine(Any.strconv_Itoa Tryz.Td n a.1 a.2 P c.pow).mono ?_;rintro e b ⟨rfl,f,g,rfl⟩;exact Ok.mk ⟨rfl,ai.U_⟩
def km(P:Laid b)(a:aM e):be 146 #[WP e] b (Ok λc d=>c= .string (cH (ax e))/\ai b d):=by
 refine Bz (al.dec (λn=>?_) (λg=>al.dec (λn=>?_) (λh=>PC.ok (strconv_Itoa P a) ?_)))
 ·exact Ok.mk ⟨by unfold ax;rw[Zx (.inl n)];rfl,aj.refl _⟩
 ·exact Ok.mk ⟨by unfold ax;rw[Zx (.inr n)];rfl,aj.refl _⟩
 rintro _ i ⟨rfl,f⟩;refine⟨_,rfl,ZN (a:=dK) ?_ ⟨_,rfl,Ok.mk ⟨?_,f⟩⟩⟩
 ·have:=pP (u:=e.toNat) oM
  unfold Lib.itoa;rw[Zq oM];show 4+_<=_;omega
 ·rw[mX oM oM]
  unfold Lib.itoa;rw[Zq oM]
def CQ:be 324 #[.string (cH u),.string (cH b0)] b (Ok λa c=>a= .bool (decide (u.take b0.length=b0))/\b=c):=by
 refine iO ?_;rw[jm,jm];refine al.dec (λn=>⟨oM,oM,Ok.mk ⟨?_,rfl⟩⟩) (λn=>Ok.mk ⟨?_,rfl⟩)
 ·rw[Qx]
  have P:ByteArray.toList (ByteArray.extract (cH u) 0 b0.length)=u.take b0.length:=by
   rw[ByteArray.toList_eq,ByteArray.data_extract];simp[cH]
  have d:ByteArray.toList (cH b0)=b0:=by rw[ByteArray.toList_eq,oE]
  rw[P,d]
  congr 1
  by_cases n:u.take b0.length=b0<;>simp[n]
 ·have:u.take b0.length≠b0:=λP=>by have:=Zj List.length P;simp at this;omega
  rw[Xv this]
def Eg:be 224 #[.string (cH u),.string (cH b0)] b (Ok λP a=>P= .tuple (if u.take b0.length=b0 then #[.string (cH (u.drop b0.length)),.bool true]else #[.string (cH u),.bool false])/\b=a):=by
 refine sZ (PC.ok (φ:=λP a=>P= .tuple (if u.take b0.length=b0 then #[.string (cH (u.drop b0.length)),.bool true]else #[.string (cH u),.bool false])/\b=a) (iM (PC.ok CQ ?_)) ?_)
 ·rintro _ _ ⟨rfl,rfl⟩
  refine⟨_,rfl,?_⟩;rw[jm,jm]
  by_cases n:u.take b0.length=b0
  ·rw[Zx n,Zy n]
   have e:b0.length<=u.length:=by have:=Zj List.length n;simp at this;omega
   refine al.ff rfl ⟨oM,oM,Ok.mk ⟨?_,rfl⟩⟩;have c:ByteArray.extract (cH u) (Int.toNat ((b0.length:Nat):Int)) u.length=cH (u.drop b0.length):=by
    apply ByteArray.ext;rw[Qx,ByteArray.data_extract];have d:List.take (u.length-b0.length) (List.drop b0.length u)=List.drop b0.length u:=Qz sM;simp[cH,d]
   rw[c]
  ·rw[Zq n,Xv n]
   exact al.tt rfl (Ok.mk ⟨rfl,rfl⟩)
 ·rintro _ _ ⟨rfl,rfl⟩
  split
  ·exact⟨_,_,rfl,Ok.mk ⟨rfl,rfl⟩⟩
  ·exact⟨_,_,rfl,Ok.mk ⟨rfl,rfl⟩⟩
def Bq(y:Laid b):be 161 #[.string w] b (Ok λk d=>k= .tuple #[WP (ig w).1,.bool (ig w).2]/\ai b d):=by
 rw[<-WQ w];generalize w.data.toList=e;have c:(⟨#[115,101,103,46]⟩:ByteArray)=cH dK:=rfl;unfold ig;rw[oE];refine xE ?_;rw[c];refine PC.ok Eg ?_;rintro _ _ ⟨rfl,rfl⟩;have no:∀d,jE e=none->ai b d->Ok (λk d=>k= .tuple #[WP (match jE e with|some l=>((l:Int),true)|none=>(0,false)).1,.bool (match jE e with|some l=>((l:Int),true)|none=>(0,false)).2]/\ai b d) (.returned (.tuple #[WP 0,.bool false])) d:=λd p z=>by
  rw[p];exact Ok.mk ⟨rfl,z⟩
 by_cases f:e.take dK.length=dK
 ·rw[Zx f]
  refine⟨_,_,rfl,al.ff rfl ?_⟩;have q:e=dK++e.drop 4:=by
   have:=ZX 4 e;rw[show e.take 4=dK from f]at this;exact this.symm
  change al (decide (((ByteArray.size (cH (e.drop 4)):Nat):Int)>12)) _ _
  generalize S:e.drop 4=P at q;subst q;rw[jm];refine al.dec (λp=>no _ (MT (by rw[QX];show 16<4+_;omega)) (aj.refl _)) (λT=>?_);refine Ce Tryz.underlying9 λU A B V=>⟨λr s d=>∃n,r=P.length-n/\n<=P.length/\s=(fg (P.take n):Int)/\d.heap[b.heap.size]? =some (.stringIter (cH P) n)/\ai b d/\(P.take n).all gY=true,⟨_,0,rfl,Qj _,rfl,A,B,rfl⟩,?_⟩
  rintro r s W X ⟨n,rfl,Y,rfl,C,g,h⟩;have E:=yo _ h;refine Hf C (λF=>.inl ⟨rfl,?_⟩) λc t u i Z=>.inr ⟨_,_,rfl,?_⟩
  ·rw[jm]at F
   rw[Qz oM]at h E⊢;have a0:10 ^ P.length<=10 ^ 12:=Nat.pow_le_pow_right oM oM;have H:(10:Nat) ^ 12=1000000000000:=dC
   refine PC.ok (km (y.af g) cw) ?_;rintro _ t ⟨rfl,i⟩;have v:=HH h oM;refine⟨_,rfl,al.neS (λI=>no _ ?_ (g.then i)) (λJ=>?_)⟩
   ·rw[v,Zq λK=>I (by rw[K])]
   ·rw[v,Zx (NR J)]
    exact Ok.mk ⟨rfl,g.then i⟩
  ·have m:n<P.length:=by rwa [jm]at c
   have j:ai b t:=g.new i λa1 x=>.inr oM;have o:P[n]? =some ((cH P)[n]'c):=by
    rw[Qq m]
    congr 1
   have a:gY ((cH P)[n]'c)=false->jE (dK++P)=none:=λL=>Ko (List.all_eq_false.2 ⟨_,QZ o,by simp[L]⟩)
   by_cases x:((cH P)[n]'c).toNat<128
   ·rw[decode_ascii _ n c x]at u⊢
    simp only;refine al.dec (λM=>no _ (a ?_) j) (λN=>al.dec (λO=>no _ (a ?_) j) (λQ=>?_))
    ·unfold gY;exact Xv oM
    ·unfold gY;exact Xv oM
    ·have a2:10 ^(P.take n).length<=10 ^ 12:=Nat.pow_le_pow_right oM cS
     have H:(10:Nat) ^ 12=1000000000000:=dC
     refine⟨_,oM,n+1,rfl,oM,?_,u,j,?_⟩
     ·rw[Qw,o]
      show _=((fg (P.take n++[_]):Nat):Int);rw[gj];have R:PP .i32 ((((cH P)[n]'c).toNat:Int)-48)=(((cH P)[n]'c).toNat:Int)-48:=by
       unfold PP;simp[IntKind.signed,IntKind.bits];omega
      rw[R,wrap_i64 (x:=(((cH P)[n]'c).toNat:Int)-48) cw,wrap_i64 (x:=10*_) cw,wrap_i64 cw];omega
     ·rw[Qw,o,List.all_append,h]
      simp[gY];omega
   ·have hh:=(decode_high _ n c oM).1
    refine al.dec (λM=>oM) (λN=>al.dec (λO=>no _ (a ?_) j) (λQ=>oM));unfold gY;exact Xv oM
 ·rw[Zq f]
  exact⟨_,_,rfl,al.tt rfl (no _ (Qd f) (aj.refl _))⟩
end
section
open Go.aw
def VN:kD LL 42 3 1 8:=⟨kR,kR,dC⟩
def fY(P:List Int)(n:Int):Int:=if n<0 then 0 else max (P.getD n.toNat 0) 0
variable{e r:Int}{b2 s:List Int}{a c i q:Nat}{d x:bc}{b:World}{l:ah}
def Vi(P:0<=e)(n:s[e.toNat]? =some r):fY s e=max r 0:=by
 unfold fY;rw[Zq oM];simp[List.getD,n]
def Tq(n:(s.length:Int)<=e):fY s e=0:=by
 unfold fY;split
 ·rfl
 ·have:s[e.toNat]? =none:=by simp;omega
  simp[List.getD,this]
def oT{i:Int}(f:Ints b d a s):
  be 196 #[.slice d a c,WP i] b (Ok λg h=>g= WP (fY s i)/\b=h):=by
 refine OU ?_;refine al.mk (λP=>?_) (λP=>al.mk (λn=>?_) (λn=>?_))
 ·have:=XV P
  exact Ok.mk ⟨by simp[fY,this],rfl⟩
 ·have n:=XV n
  exact Ok.mk ⟨by rw[Tq (by rw[<-f.len];exact n)],rfl⟩
 ·have P:=Xy P
  have n:=Xy n;obtain⟨j,e,k,rfl,o,l,p,m⟩:=f.at (i:=i) oM oM;refine⟨j,e,rfl,oM,oM,k,m,Ok.mk ⟨?_,rfl⟩⟩;rw[Vi oM l]
  congr 1
  omega
def qS(P a:List Int)(b:Nat):List Int:=(List.range b).map λ(n:Nat)=>max (fY P n) (fY a n)
def kZ(n P:List Int):List Int:=qS n P (max n.length P.length)
def Kx(P a:List Int)(n:Nat):qS P a (n+1)=qS P a n++[max (fY P n) (fY a n)]:=by simp[qS,List.range_succ]
def tx(P a:List Int)(n:Nat):(qS P a n).length=n:=by simp[qS]
def HK(P:World)(e:TypeId)(f:List Int)(g:Value)(a:World):Prop:=
 ∃n b c,g= .slice n b c/\Own a e 1 n b c (ints f)/\ai P a/\∀d,aG n=some d->P.heap.size<=d
def Vj:(if r>e then r else e)=max e r:=oM
def Bo(h:Ints b d a s)(n:Ints b x c b2):
  be 192 #[.slice d a i,.slice x c q] b (Ok (HK b 3 (kZ s b2))):=by
 have u:=h.len;have v:=n.len;have w:=h.fh;have y:=n.fh;unfold aR at w y;refine LN ⟨λm j P o p r=>p=(P:Int)/\P<=max a c/\m=max a c-P/\Own r 3 1 j P o (ints (qS s b2 P))/\ai b r/\∀x,aG j=some x->b.heap.size<=x,
  ⟨_,rfl,oM,rfl,Own.nil _ _ _,aj.refl _,by simp[aG]⟩,?_⟩
 rintro m j P o p _ C ⟨rfl,E,rfl,t,e,k⟩;refine al.mk (λf=>?_) (λf=>?_)
 ·have f:=XV f
  refine PC.ok (oT (h.af e)) ?_;rintro _ _ ⟨rfl,rfl⟩;refine⟨_,rfl,PC.ok (oT (n.af e)) ?_⟩;rintro _ _ ⟨rfl,rfl⟩;refine⟨_,rfl,PA.mk λF l H z=>?_⟩;refine Nh VN (t.af l) z ce λI J K A B g=>?_;refine⟨_,_,_,rfl,_,?_,?_,oM,rfl,?_,(e.af l).new B ?_,?_⟩
  ·omega
  ·rw[wrap_i64 cw];simp
  ·rw[Kx,<-Vj];exact A
  ·intro x n;exact .inr (k x n.symm)
  ·intro x n
   rcases g with g|g
   ·exact k x (g▸n)
   ·rw[g]at n;cases n;have:=e.size;have:=l.size;omega
 ·have f:=Xy f
  have:P=max a c:=oM
  subst this;refine Ok.mk ⟨_,_,_,rfl,?_,e,k⟩;unfold kZ;rw[<-u,<-v];exact t
def zq(n P:List Int):Nat->Int
 |0=>0
 |k+1=>if fY n k<fY P k then RP .i64 (zq n P k) 1 else if fY n k>fY P k then RP .i64 (zq n P k) 2 else zq n P k
def nh(n P:List Int):Int:=zq n P (max n.length P.length)
def Oc(g:Ints b d a s)(h:Ints b x c b2):
  be 193 #[.slice d a i,.slice x c q] b (Ok λp j=>p= WP (nh s b2)/\b=j):=by
 have r:=g.len;have t:=h.len;have u:=g.fh;have v:=h.fh;unfold aR at u v;refine OT ⟨λl m o j=>∃n:Nat,o=n/\n<=max a c/\l=max a c-n/\m=zq s b2 n/\j=b,
  ⟨_,0,rfl,oM,rfl,rfl,rfl⟩,?_⟩
 rintro l m o _ w ⟨n,rfl,y,rfl,rfl,rfl⟩;refine al.mk (λf=>?_) (λf=>?_)
 ·have f:=XV f
  refine PC.ok (oT g) ?_;rintro _ _ ⟨rfl,rfl⟩;refine⟨_,rfl,PC.ok (oT h) ?_⟩;rintro _ _ ⟨rfl,rfl⟩;have k:PP .i64 ((n:Int)+1)=((n+1:Nat):Int):=by rw[wrap_i64 cw];simp
  refine⟨_,rfl,al.mk (λP=>?_) (λP=>al.mk (λe=>?_) (λe=>?_))⟩
  ·have P:=XV P
   exact⟨_,oM,n+1,k,oM,rfl,by simp[zq,P],rfl⟩
  ·have P:=Xy P
   have e:=XV e;exact⟨_,oM,n+1,k,oM,rfl,by simp[zq,P,e],rfl⟩
  ·have P:=Xy P
   have e:=Xy e;exact⟨_,oM,n+1,k,oM,rfl,by simp[zq,P,e],rfl⟩
 ·have f:=Xy f
  have:n=max a c:=oM
  subst this;exact Ok.mk ⟨by unfold nh;rw[<-r,<-t],rfl⟩
structure kY where
 bM:Int
 mL:Int
 mq:Int
 least:Int
 deriving DecidableEq
structure bA where
 kind:Int
 d_:Int
 floor:Bool
 bG:List kY
 deriving DecidableEq
structure jZ where
 aZ:Int
 field:Int
 group:Int
 FY:Int
 make:Int
 deriving DecidableEq
structure aT where
 types:List (List bA)
 projs:List jZ
 deriving DecidableEq
structure lI where
 aZ:Int
 agg:Int
 field:Int
 op:Int
 arg:Int
 expect:Int
 key:Int
 deriving DecidableEq
structure c_ where
 n:Int
 set:List Int
 deriving DecidableEq
structure pJ where
 version:Int
 cells:List c_
 deriving DecidableEq
structure cZ where
 ev:ah
 void:Bool
 FY:Int×Int
structure ep where
 group:Int
 value:Int
 count:Int
 deriving DecidableEq
abbrev qf(n:Int):Int:=PP .i64 n
def within(n P a:Int):Bool:=decide (P<=n)&&decide (n<=a)
def aT.at(n:aT)(P:Int):List bA:=if within P 0 (n.types.length-1)then n.types.getD P.toNat []else []
def aT.Ec(n:aT)(P a:Int):Option bA:=
 if within P 0 (n.types.length-1)&&within a 0 ((n.at P).length-1)then(n.at P)[a.toNat]? else none
def rK(n:Int):Int:=if n=1 then 1 else if n=2 then 2 else if n=3 then 3 else if n=4 then 3 else if n=5 then 4 else 0
def mg(P:aT)(a b op arg:Int):Int:=match P.Ec a b with
 |none=>8
 |some n=>if !within op 1 5||rK op !=n.kind then 2 else if op==1&&arg==0||op==5&& !within arg 0 (n.bG.length-1)then 1 else 0
def sf(n:aT):Bool:=
 if !within n.types.length 1 8||decide (8<n.projs.length)then true else
 n.types.any λa=>!within a.length 1 8||a.any λP=>if P.kind==4 then !within P.bG.length 1 16 else decide (0<P.bG.length)
def TB(P:List bA)(a n:Int):Bool:=within a 0 (P.length-1)&&((P[a.toNat]?).map (·.kind)==some n)
def SO(n P:Int):Bool:=P==1||P==2&&within n 2 4||P==3&&n==2
def fL(n:List bA)(f:bA):Int:=
 if !within f.kind 1 4 then 2 else if !within f.d_ 1 3|| !SO f.kind f.d_||f.floor&&f.kind !=1 then 1 else
 if f.bG.any λm=>decide (m.bM<0)||decide (m.mL<0)||m.mq== -1&&m.least !=0 then 1 else
 if f.bG.any λm=>m.mq != -1&& !TB n m.mq 1 then 8 else 0
def mY(P:aT)(n:jZ):Int:=
 if(P.Ec n.aZ n.field).isNone then 8 else
 if n.group==3&& !TB (P.at n.aZ) n.FY 2||n.group !=3&&n.FY !=0 then 8 else
 if !within n.group 1 3|| !within n.make 1 5 then 2 else 0
def cD{P:Type}(n:P->Int):List P->Int
 |[]=>0
 |x::a=>if n x !=0 then n x else cD n a
def dt(n:aT):Int:=
 if sf n then 3 else
 let P:=cD (λa=>cD (fL a) a) n.types
 if P !=0 then P else cD (mY n) n.projs
def bd(n:ah):Int×Int:=(n.origin,n.seq)
def eU(a n:ah):Bool:=decide (a.aB<n.aB)||a.aB==n.aB&&(decide (a.origin<n.origin)||a.origin==n.origin&&decide (a.seq<n.seq))
def tq(n P:ah):Int:=if eU n P then-1 else if eU P n then 1 else 0
def cR(n:ah)(P:Nat):Int:=
 if n.origin<0\/(P:Int)<=n.origin\/min n.seq n.aB<1\/min n.agg n.key<0\/n.aN.length≠P\/n.aN.any (λa=>decide (a<0))then 1 else
 if n.aN.getD n.origin.toNat 0≠qf (n.seq-1)then 9 else
 if n.op<1\/5<n.op then 2 else if min n.aZ n.field<0\/8<=n.aZ\/8<=n.field then 8 else 0
def BM(n P:ah):Bool:=decide (n.seq<=fY P.aN n.origin)
def vU(n P:ah):Bool:=bd n !=bd P&& !BM n P&& !BM P n
structure au where
 n:Nat
 l:List ah
def dN(n:ah):List ah->List ah
 |[]=>[n]
 |x::P=>if eU n x then n::x::P else x::dN n P
def au.Gt(n:au)(P:Nat):Nat:=n.l.countP λa=>a.origin==(P:Int)
def au.vec(n:au):List Int:=(List.range n.n).map λP=>(n.Gt P:Int)
def au.get(n:au)(id:Int×Int):Option ah:=n.l.find? λP=>bd P==id
def au.top(n:au):Int:=n.l.foldl (λP a=>max P a.aB) 0
def au.m_(d:au)(n:ah)(a:Nat):Bool:=
 let b:=n.aN.getD a 0
 b==0||match d.get (a,b)with
  |none=>false
  |some P=>decide (P.aB<n.aB)&&(List.range P.aN.length).all λc=>decide (P.aN.getD c 0<=n.aN.getD c 0)
def au.add(n:au)(P:ah):Int×au:=
 let no:=cR P n.n
 if no≠0 then(no,n)else
 if(n.get (bd P)).isSome then(16,n)else
 if P.seq≠(n.vec.getD P.origin.toNat 0)+1 then(9,n)else
 if(List.range n.n).any λa=>!n.m_ P a then(9,n)else(0,{n with l:=dN P n.l})
def au.eD(n:au)(l:List ah):au:=l.foldl (λn P=>(n.add P).2) n
def au.missing(a:au)(b:List Int)(n:Int):List ah:=(a.l.filter λP=>decide (max 0 (fY b P.origin)<P.seq)).take (max 0 n).toNat
def au.keyed(n:au)(key:Int):Option ah:=n.l.find? λP=>key !=0&&P.key==key
def ef(n:List bA):List c_:=n.map λ_=>⟨0,[]⟩
def Nk(n P:Int):Bool:=decide (n<qf (n+P))==decide (0<P)
def xj(e:List bA)(c:List c_)(n b arg:Int):Int:=
 let d:=e.getD n.toNat ⟨0,0,false,[]⟩
 let P:=c.getD n.toNat ⟨0,[]⟩
 let f:Bool:=
  if b=1 then(arg==0||Nk P.n arg)&& !(d.floor&&decide (qf (P.n+arg)<0))
  else if b=3 then decide (arg∈P.set)||decide (P.set.length<64)
  else if b=5 then(let a:=d.bG.getD arg.toNat ⟨0,0,0,0⟩;P.n==a.bM&&(decide (a.mq<0)||decide (a.least<=(c.getD a.mq.toNat ⟨0,[]⟩).n)))
  else true
 if f then 0 else 10
def qJ(n:Int):List Int->List Int
 |[]=>[n]
 |y::P=>if n<y then n::y::P else if n=y then y::P else y::qJ n P
def TN(c:List bA)(a:List c_)(n b arg:Int):List c_:=
 let d:=c.getD n.toNat ⟨0,0,false,[]⟩
 let P:=a.getD n.toNat ⟨0,[]⟩
 if b=1 then a.set n.toNat {P with n:=qf (P.n+arg)}
 else if b=2 then a.set n.toNat {P with n:=arg}
 else if b=3 then a.set n.toNat {P with set:=qJ arg P.set}
 else if b=4 then a.set n.toNat {P with set:=P.set.filter λe=>e !=arg}
 else if b=5 then a.set n.toNat {P with n:=(d.bG.getD arg.toNat ⟨0,0,0,0⟩).mL}
 else a
def eY(P:bA)(a n:Int×Int):Bool:=
 if P.kind=2 then a.1==2&&n.1==2&&a !=n
 else if P.kind=4 then a.1==5&&n.1==5&&a !=n
 else if P.kind=3 then a==(3,n.2)&&n==(4,a.2)||a==(4,n.2)&&n==(3,a.2)
 else false
def nw(f:bA)(n P:ah):Bool:=(f.d_==2||f.d_==3&&decide (P.arg<n.arg))&&eY f (n.op,n.arg) (P.op,P.arg)&&vU n P
structure bf where
 decl:aT
 entries:List cZ
 eT:List ((Int×Int)×pJ)
 done:List ((Int×Int×Int)×List ah)
def bf.new(n:aT):bf:=⟨n,[],[],[]⟩
def bf.try(P:bf)(n:ah):Bool×(Int×Int)×bf:=
 if mg P.decl n.aZ n.field n.op n.arg≠0 then(true,(0,0),P)else
 let c:=P.decl.at n.aZ
 let b:=(n.aZ,n.agg,n.field)
 match((an P.done b).getD []).find? λe=>nw (c.getD n.field.toNat ⟨0,0,false,[]⟩) e n with
 |some e=>(true,bd e,P)
 |none=>
  let d:=an P.eT (n.aZ,n.agg)
  let a:=match d with
   |some d=>d.cells
   |none=>ef c
  if xj c a n.field n.op n.arg≠0 then(true,(0,0),P)else
  (false,(0,0),{P with
   eT:=aJ P.eT (n.aZ,n.agg) ⟨qf ((d.getD ⟨0,[]⟩).version+1),TN c a n.field n.op n.arg⟩
   done:=aJ P.done b ((an P.done b).getD []++[n])})
def bf.add(b:bf)(P:ah):cZ×bf:=
 let n:=b.try P
 let a:cZ:=⟨P,n.1,n.2.1⟩
 (a,{n.2.2 with entries:=n.2.2.entries++[a]})
def bf.state(n:bf)(P a:Int):Option pJ:=an n.eT (P,a)
def bR(n:aT)(P:List ah):bf:=P.foldl (λa b=>(a.add b).2) (bf.new n)
def lv(b:List cZ)(c P d:Int)(n:Nat):List cZ×Bool:=
 let own:=(b.filter λa=>a.ev.aZ==c&&a.ev.agg==P).drop (max d 0).toNat
 (own.take n,decide (n<own.length))
def oI(b:List ep)(n:Int)(P:Nat):List ep×Bool:=
 let a:=b.dropWhile λc=>decide (c.group<=n)
 (a.take P,decide (P<a.length))
def ki(P:aT)(n:lI):Int:=if n.agg<0\/n.key<0\/n.expect< -1 then 1 else mg P n.aZ n.field n.op n.arg
def aX(P:lI)(n:Int)(a:List Int)(b:Int):Int×ah:=
 let no:ah:=⟨0,0,0,[],0,0,0,0,0,0⟩
 if n<0\/(a.length:Int)<=n\/b<0 then(1,no)else
 if fY a n=9223372036854775807\/b=9223372036854775807 then(13,no)else
 (0,⟨n,fY a n+1,b+1,kZ a [],P.aZ,P.agg,P.field,P.op,P.arg,P.key⟩)
def fQ(d:aT)(b:au)(h:bf)(P start:Int)(n:lI):ah×Bool×Int:=
 let no:ah:=⟨0,0,0,[],0,0,0,0,0,0⟩
 let e:=ki d n
 if e≠0 then(no,false,e)else
 match b.keyed n.key with
 |some i=>(i,false,0)
 |none=>
  let f:=d.at n.aZ
  let g:=h.state n.aZ n.agg
  let a:=match g with
   |some j=>j.cells
   |none=>ef f
  if¬(n.expect= -1\/n.expect=(g.getD ⟨0,[]⟩).version)then(no,false,11)else
  if xj f a n.field n.op n.arg≠0 then(no,false,10)else
  let c:=aX n P b.vec (max b.top start)
  (c.2,decide (c.1=0),c.1)
structure dQ where
 p:jZ
 rows:List (Int×ep)
def mW(n:jZ)(P:ep)(arg:Int):Int:=
 if n.make=1 then P.count else if n.make=2 then qf (P.value+arg)else
 if n.make=5\/P.count=1/\(n.make=3\/n.make=4)then arg else
 if n.make=3 then min P.value arg else if n.make=4 then max P.value arg else 0
def dQ.add(n:dQ)(e:cZ)(b:Int):dQ:=
 let a:=if n.p.group=1 then some e.ev.agg else if n.p.group=2 then some e.ev.arg else if n.p.group=3 then some b else none
 match a with
 |none=>n
 |some a=>
  if e.void||e.ev.aZ !=n.p.aZ||e.ev.field !=n.p.field then n else
  let P:=(an n.rows a).getD ⟨0,0,0⟩
  let P:ep:=⟨a,P.value,qf (P.count+1)⟩
  {n with rows:=aJ n.rows a ⟨a,mW n.p P e.ev.arg,P.count⟩}
def nB(n:ep):List ep->List ep
 |[]=>[n]
 |y::P=>if n.group<y.group then n::y::P else y::nB n P
def dQ.list(n:dQ):List ep:=(n.rows.map (·.2)).foldr nB []
structure kV where
 view:bf
 rows:List dQ
def kV.new(n:aT):kV:=⟨bf.new n,n.projs.map λP=>⟨P,[]⟩⟩
def tm(n:Option pJ)(P:jZ):Int:=match n with
 |none=>0
 |some n=>((n.cells[P.FY.toNat]?).map (·.n)).getD 0
def kV.add(a:kV)(n:ah):kV:=
 let P:=a.view.add n
 let c:=P.2.state n.aZ n.agg
 ⟨P.2,a.rows.map λb=>b.add P.1 (tm c b.p)⟩
def eC(n:aT)(P:List ah):kV:=P.foldl kV.add (kV.new n)
def eV(n:Nat)(P:List ah)(a:ah):Bool×List ah:=
 if n<=P.length\/P.any (λb=>bd b==bd a)then(false,P)else(true,dN a P)
def dO(n:au):List ah->Option (ah×au×List ah)
 |[]=>none
 |e::a=>if(n.add e).1=0 then some (e,(n.add e).2,a)else(dO n a).map λP=>(P.1,P.2.1,e::P.2.2)
def du:Nat->au->List ah->List ah->List ah×List ah
 |0,a,P,n=>(n,P)
 |k+1,a,P,n=>match dO a P with
  |none=>(n,P)
  |some (b,c,d)=>du k c d (n++[b])
def bF(P:au)(n:List ah):List ah×List ah:=
 let n:=n.filter λa=>(P.get (bd a)).isNone
 du (n.length+1) P n []
structure bV where
 kind:Int
 bM:Int
 mL:Int
 vec:List Int
 events:List ah
def gC(n:bV)(P:Int):Int:=if 0<n.events.length then 8 else if(n.vec.length:Int)≠P then 1 else if n.vec.any (λa=>decide (a<0))then 1 else 0
def eB(P:bV)(a:Nat)(n:Int):Int:=if 0<P.vec.length then 8 else if P.events.length<1\/n<(P.events.length:Int)then 3 else cD (λb=>cR b a) P.events
def ei(m:bV)(a:Nat)(P:Int):Int:=
 let n:=!(decide (0<=m.bM)&&decide (m.bM<a))|| !(decide (0<=m.mL)&&decide (m.mL<a))||m.bM==m.mL
 if m.kind=3 then(if n then 1 else eB m a P)
 else if m.kind=1\/m.kind=2\/m.kind=4 then(if n then 1 else gC m a)
 else 2
def lr(n:au)(P a:Int):bV:=⟨1,P,a,n.vec,[]⟩
def Am(n:au)(P a:Int):bV:=⟨4,P,a,n.vec,[]⟩
def mM(c:au)(n:Int)(P:bV)(a:Int):List bV:=
 if P.kind≠1/\P.kind≠2 then []else
 let d:=c.missing P.vec (max 1 (min a 32))
 let f:List bV:=if 0<d.length then [⟨3,n,P.bM,[],d⟩]else []
 let e:=nh P.vec c.vec
 let g:List bV:=if P.kind=1/\(e=2\/e=3)then [⟨2,n,P.bM,c.vec,[]⟩]else []
 let b:=f++g
 if b.isEmpty then [Am c n P.bM]else b
def G_:(if r<e then r else e)=min e r:=oM
def Un{D:UK}(i:Row aP 8 b D d a s):
  be 184 #[.slice d a c,.func (.func 183) #[] #[]] b (Ok λg n=>g= .bool (s.any λP=>decide (P<0))/\b=n):=by
 have w:=i.len;have q:=i.fh;unfold aR at q;refine kj (PC.ok (φ:=λg n=>(∃f:Int,g= WP f/\(0<=f↔(s.any λP=>decide (P<0))=true))/\b=n) (lM ⟨λl f n=>∃e:Nat,f=e/\e<=a/\l=a-e/\((s.take e).any λP=>decide (P<0))=false/\b=n,
  ⟨_,0,rfl,Qj _,rfl,sM,rfl⟩,?_⟩) ?_)
 ·rintro l f _ _ ⟨e,rfl,x,rfl,j,rfl⟩
  refine al.dec (λr=>?_) (λr=>?_)
  ·obtain⟨t,k,m,rfl,o,_,u⟩:=i.nE (i:=e) oM
   refine⟨t,k,rfl,oM,oM,_,u,183,_,_,rfl,kR,PC.ok (φ:=λg n=>g= .bool (decide (m<0))/\b=n) (zZ (Ok.mk ⟨rfl,rfl⟩)) ?_⟩;rintro _ _ ⟨rfl,rfl⟩;refine⟨_,rfl,al.dec (λp=>?_) (λp=>?_)⟩
   ·exact Ok.mk ⟨⟨_,rfl,λ_=>List.any_eq_true.2 ⟨m,QZ o,by simpa using p⟩,λ_=>oM⟩,rfl⟩
   ·refine⟨_,oM,e+1,aq oM,oM,rfl,?_,rfl⟩
    rw[Qw,o,List.any_append,j];simp;omega
  ·rw[Qz oM]at j
   exact Ok.mk ⟨⟨_,rfl,λh=>oM,λh=>by rw[j]at h;cases h⟩,rfl⟩
 ·rintro _ _ ⟨⟨f,rfl,v⟩,rfl⟩
  exact⟨_,rfl,Ok.mk ⟨by cases h:(s.any λP=>decide (P<0))<;>simp[h]at v⊢<;>omega,rfl⟩⟩
def yI{D:UK}(k:Row aP 8 b D d a l.aN)(I:i<4611686018427387904):
  be 113 #[.agg (aI l d a c).toArray,WP (i:Int)] b (Ok λh j=>h= WP (cR l i)/\ai b j):=by
 have J:=k.len;have x:=k.fh;unfold aR at x;refine DK (PA.mk λy m K f=>⟨_,ae f rfl,?_⟩);have e:(l.origin<0\/(i:Int)<=l.origin\/min l.seq l.aB<1\/min l.agg l.key<0\/l.aN.length≠i\/l.aN.any (λp=>decide (p<0))=true)->Ok (λh j=>h= WP (cR l i)/\ai b j) (.returned (WP 1)) y:=λn=>by
  refine Ok.mk ⟨?_,m⟩;unfold cR;rw[Zx n]
 refine al.dec (λn=>e (.inl n)) λL=>⟨_,ae f rfl,al.dec (λn=>e (.inr (.inl n))) λM=>⟨_,ae f rfl,_,ae f rfl,?_⟩⟩
 with_reducible (conv=>whnf)
 rw[G_];refine al.dec (λn=>e (.inr (.inr (.inl n)))) λN=>⟨_,ae f rfl,_,ae f rfl,?_⟩
 with_reducible (conv=>whnf)
 rw[G_];refine al.dec (λn=>e (.inr (.inr (.inr (.inl n))))) λO=>⟨_,_,_,ae f rfl,al.eK (λn=>e (.inr (.inr (.inr (.inr (.inl oM)))))) λQ=>⟨_,_,_,ae f rfl,PC.ok (Un (k.af m)) ?_⟩⟩
 rintro _ _ ⟨rfl,rfl⟩;refine⟨_,rfl,al.mk (λn=>e (.inr (.inr (.inr (.inr (.inr n)))))) λz=>⟨_,_,_,ae f rfl,_,ae f rfl,?_⟩⟩;obtain⟨A,q,B,rfl,C,R,E⟩:=(k.af m).nE (i:=l.origin.toNat) oM;have t:¬(l.origin<0\/(i:Int)<=l.origin\/min l.seq l.aB<1\/min l.agg l.key<0\/l.aN.length≠i\/l.aN.any (λp=>decide (p<0))=true):=by
  rw[z];simp only[Bool.false_eq_true,or_false,not_or];omega
 refine⟨A,q,rfl,oM,oM,_,E,_,ae f rfl,λu v=>?_⟩;have F:ai b u:=m.then v.keep;have g:=(cf.keep (S:=λ_=>False) v).get f id;have w:l.aN.getD l.origin.toNat 0=B:=by rw[QQ,C];rfl
 have P:∀r:Int,cR l i=r->Ok (λh j=>h= WP (cR l i)/\ai b j) (.returned (WP r)) u:=λr n=>Ok.mk ⟨by rw[n],F⟩;refine al.eK (λn=>P 9 (by unfold cR;rw[Zq t,w,Zx n])) λH=>⟨_,ae g rfl,?_⟩
 have s:cR l i=if l.op<1\/5<l.op then 2 else if min l.aZ l.field<0\/8<=l.aZ\/8<=l.field then 8 else 0:=by
  unfold cR;rw[Zq t,w,Zq (by simpa using H)]
 refine al.dec (λn=>P 2 (by rw[s,Zx (.inl n)])) λS=>⟨_,ae g rfl,al.dec (λn=>P 2 (by rw[s,Zx (.inr n)])) λT=>⟨_,ae g rfl,_,ae g rfl,?_⟩⟩
 with_reducible (conv=>whnf)
 rw[G_];have o:cR l i=if min l.aZ l.field<0\/8<=l.aZ\/8<=l.field then 8 else 0:=by rw[s,Zq oM]
 refine al.dec (λn=>P 8 (by rw[o,Zx (.inl n)])) λU=>⟨_,ae g rfl,al.dec (λn=>P 8 (by rw[o,Zx (.inr (.inl n))])) λV=>⟨_,ae g rfl,al.dec (λn=>P 8 (by rw[o,Zx (.inr (.inr n))])) λW=>P 0 (by rw[o,Zq oM])⟩⟩
end
end Go.Proofs.YtjgjkeponbeekaaGreatDoor
namespace Go.aw
open Go
def YD(P n:Value):Bool:=match P with
 | .int a _=>match n with
  | .int b _=>decide (b=a)
  |_=>false
 | .bool _=>match n with
  | .bool _=>true
  |_=>false
 | .string _=>match n with
  | .string _=>true
  |_=>false
 | .slice _ _ _=>match n with
  | .slice _ _ _=>true
  |_=>false
 | .pointer _=>match n with
  | .pointer _=>true
  |_=>false
 | .map _=>match n with
  | .map _=>true
  |_=>false
 |_=>true
def WU:List Value->List Value->Bool
 |[],[]=>true
 |z::n,P::a=>YD z P&&WU n a
 |_,_=>false
def UA(z n:Value):Bool:=match z with
 | .agg P=>match n with
  | .agg cs=>WU P.toList cs.toList
  |_=>false
 |z=>YD z n
variable{m:Array Value}{a c:Nat}{C:Nat×Nat}{h:Program}{g p:TypeId}{c7 v:Value}{Q:Value->Prop}{b:World}{y:ba}
def Tn{φ:Value->Prop}(P:YD v c7=true)(n:φ c7):QD v φ:=by
 unfold QD
 cases v<;>cases c7<;>simp[YD]at P<;>first
  |exact⟨_,n⟩
  |exact⟨_,_,_,n⟩
  |(subst P;exact⟨_,n⟩)
def MZ:∀{P cs:List Value} {φ:List Value->Prop},WU P cs=true->φ cs->Su P φ
 |[],[],φ,_,a=>a
 |[],_::_,φ,n,_=>by simp[WU]at n
 |_::_,[],φ,n,_=>by simp[WU]at n
 |z::P,b::d,φ,n,a=>by
  simp only[WU,QK]at n;exact Tn (φ:=λb=>Su P λc=>φ (b::c)) n.1 (MZ (φ:=λc=>φ (b::c)) n.2 a)
def cA(n:UA v c7=true)(P:Q c7):w_ v Q:=by
 unfold w_;split
 ·rename_i c
  cases c7<;>simp[UA]at n
  rename_i cs;exact MZ (φ:=λa=>Q (.agg a.toArray)) n (by simpa using P)
 ·rename_i b
  refine Tn ?_ P
  cases v<;>first|exact n|exact Zz rfl (b _)
def zo{b:World}{c:Addr}{d:Prop}:∀{cs:List Value} {n:Nat},(∀P v,cs[P]? =some v->b.cell? (c.add (n+P))=some v)->d->jg b c n cs d
 |[],n,_,a=>a
 |v::h,n,e,a=>⟨e 0 v rfl,zo (λP f g=>by have:=e (P+1) f (by simpa using g);rwa [show n+1+P=n+(P+1) by omega]) a⟩
def iQ(n:Program)(P:TypeId)(cs:List Value):Bool:=uS n P&&(match eE n P with
 | .agg a=>Nat.beq (mU n P) a.size&&WU a.toList cs
 |_=>false)&&Nat.beq cs.length (mU n P)&&cs.all Value.oneCell'
def M_{cs:List Value}(e:iQ h g cs=true)(i:∀P d,cs[P]? =some d->b.cell? ⟨a,c+P,none⟩=some d)(j:Q (.agg cs.toArray)):
  jW h g (.pointer (some ⟨a,c,none⟩)) b Q:=by
 simp only[iQ,QK]at e;obtain⟨⟨⟨k,n⟩,m⟩,o⟩:=e;unfold jW;simp only[k]
 revert n
 cases eE h g<;>simp only[Bool.false_eq_true,false_implies]
 rename_i p;intro n;simp only[QK]at n;simp only[n.1];exact MZ (φ:=λf=>jg b ⟨a,c,none⟩ 0 f (Q (.agg f.toArray))) n.2 (zo (λP d l=>by rw[Xz,Addr.add_lit];exact i P d l) j)
def ar{cs:List Value}(n:iQ h g cs=true)(P:b.heap[a]? =some (.cells cs.toArray p C))(c:Q (.agg cs.toArray)):
  jW h g (RK a) b Q:=M_ n (λe f d=>ae P (by rw[Xz];simpa using d)) c
def WH{cs:List Value}(d:iQ h g cs=true)(e:b.heap[a]? =some (.cells m p C))(f:∀n P,cs[n]? =some P->m[c+n]? =some P)(i:Q (.agg cs.toArray)):
  jW h g (.pointer (some ⟨a,c,none⟩)) b Q:=M_ d (λn P j=>ae e (f n P j)) i
def cx{P a k:Nat}{es:List Value}(d:iQ h g es=true)(e:es.length=k)(f:∀n,n<k->b.cell? ⟨P,a+n,none⟩=es[n]?)(i:Q (.agg es.toArray)):
  jW h g (.pointer (some ⟨P,a,none⟩)) b Q:=M_ d (λn j c=>by rw[f n (by rw[<-e];exact(Qv.1 c).1)];exact c) i
def FT{b d:Nat}{g:TypeId}{h:ba}:∀(a:List Value) (P:Nat) {n:World} {cs:Array Value},n.heap[b]? =some (.cells cs g (0,0))->d+P+a.length<=cs.size->
  (∀c,aj (·=b) n c->c.heap.size=n.heap.size->c.heap[b]? =some (.cells (C_ cs (d+P) a) g (0,0))->h c)->jR ⟨b,d,none⟩ P a n h
 |[],P,n,cs,e,i,f=>f n (aj.refl _) rfl e
 |v::a,P,n,cs,e,i,f=>by
  unfold jR;rw[Addr.add_lit];rw[Xq]at i;exact PS.mk e oM λr j k l=>FT a (P+1) l cS λm o p q=>f m (j.then o) (p.trans k) q
def WV{cs:List Value}(P:iQ h g cs=true)(d:b.heap[a]? =some (.cells m p (0,0)))(o:c+cs.length<=m.size)(e:∀n,aj (·=a) b n->n.heap.size=b.heap.size->n.heap[a]? =some (.cells (C_ m c cs) p (0,0))->y n):oJ h g (.pointer (some ⟨a,c,none⟩)) (.agg cs.toArray) b y:=by
 simp only[iQ,QK]at P;obtain⟨⟨⟨f,q⟩,i⟩,j⟩:=P;unfold oJ;have k:Nat.beq cs.toArray.size (mU h g)=true:=by simpa using i
 have l:cs.toArray.toList.all Value.oneCell'=true:=by simpa using j
 simp only[f,k,l];exact FT cs 0 d oM e
def aD{cs:List Value}(P:iQ h g cs=true)(c:b.heap[a]? =some (.cells m p (0,0)))(d:cs.length=m.size)(e:∀n,aj (·=a) b n->n.heap.size=b.heap.size->n.heap[a]? =some (.cells cs.toArray p (0,0))->y n):oJ h g (RK a) (.agg cs.toArray) b y:=
 WV P c oM λn f i j=>e n f i (by rw[j,FR d])
end Go.aw
namespace Go.Proofs
open Go.Shelf
def Tryz.Qi:Go.Shelf.Ren:=⟨λ|6=>154|15=>218|14=>217|28=>276|29=>277|20=>268|21=>269|22=>270|23=>271|24=>272|25=>273|26=>274|27=>275|46=>316|47=>317|48=>318|49=>319|50=>320|57=>348|n=>n,λ|22=>59|24=>63|25=>260|3=>3|39=>324|0=>0|53=>365|55=>367|4=>4|46=>359|45=>358|50=>273|5=>5|9=>9|66=>400|70=>375|76=>426|77=>427|n=>n,λ|n=>n⟩
def Tryz.VO:Go.Proofs.SlLaysF0.n6 Tryz.prog Tryz.Qi:={
 mixed:=by kernel_rfl
 f6:=⟨Tryz.f154.name,bv,Tryz.func154.trans bn⟩
 f14:=⟨Tryz.f217.name,bv,Tryz.func217.trans bn⟩
 f15:=Tryz.func218.trans bn
 f20:=⟨Tryz.f268.name,bv,Tryz.func268.trans bn⟩
 f21:=⟨Tryz.f269.name,bv,Tryz.func269.trans bn⟩
 f22:=⟨Tryz.f270.name,bv,Tryz.func270.trans bn⟩
 f23:=⟨Tryz.f271.name,bv,Tryz.func271.trans bn⟩
 f24:=⟨Tryz.f272.name,bv,Tryz.func272.trans bn⟩
 f25:=⟨Tryz.f273.name,bv,Tryz.func273.trans bn⟩
 f26:=⟨Tryz.f274.name,bv,Tryz.func274.trans bn⟩
 f27:=⟨Tryz.f275.name,bv,Tryz.func275.trans bn⟩
 f28:=Tryz.func276.trans bn
 f29:=Tryz.func277.trans bn
 f46:=⟨Tryz.f316.name,bv,Tryz.func316.trans bn⟩
 f47:=Tryz.func317.trans bn
 f48:=Tryz.func318.trans bn
 f49:=⟨Tryz.f319.name,bv,Tryz.func319.trans bn⟩
 f50:=⟨Tryz.f320.name,bv,Tryz.func320.trans bn⟩
 f57:=⟨Tryz.f348.name,bv,Tryz.func348.trans bn⟩
 t0:=Tryz.underlying0
 a0:=Tryz.isAgg0
 z0:=Tryz.sizeOf0
 v0:=Tryz.zeroValue0
 t3:=Tryz.underlying3
 a3:=Tryz.isAgg3
 z3:=Tryz.sizeOf3
 v3:=Tryz.zeroValue3
 t4:=Tryz.underlying4
 a4:=Tryz.isAgg4
 z4:=Tryz.sizeOf4
 v4:=Tryz.zeroValue4
 t5:=Tryz.underlying5
 a5:=Tryz.isAgg5
 z5:=Tryz.sizeOf5
 v5:=Tryz.zeroValue5
 t9:=Tryz.underlying9
 a9:=Tryz.isAgg9
 z9:=Tryz.sizeOf9
 v9:=Tryz.zeroValue9
 t22:=Tryz.underlying59
 a22:=Tryz.isAgg59
 z22:=Tryz.sizeOf59
 v22:=Tryz.zeroValue59
 t25:=Tryz.underlying260
 a25:=Tryz.isAgg260
 z25:=Tryz.sizeOf260
 v25:=Tryz.zeroValue260
 t39:=Tryz.underlying324
 a39:=Tryz.isAgg324
 z39:=Tryz.sizeOf324
 v39:=Tryz.zeroValue324
 t45:=Tryz.underlying358
 a45:=Tryz.isAgg358
 z45:=Tryz.sizeOf358
 v45:=Tryz.zeroValue358
 t46:=Tryz.underlying359
 a46:=Tryz.isAgg359
 z46:=Tryz.sizeOf359
 v46:=Tryz.zeroValue359
 t50:=Tryz.underlying273
 a50:=Tryz.isAgg273
 z50:=Tryz.sizeOf273
 v50:=Tryz.zeroValue273
 t53:=Tryz.underlying365
 a53:=Tryz.isAgg365
 z53:=Tryz.sizeOf365
 v53:=Tryz.zeroValue365
 t55:=Tryz.underlying367
 a55:=Tryz.isAgg367
 z55:=Tryz.sizeOf367
 v55:=Tryz.zeroValue367
 t66:=Tryz.underlying400
 a66:=Tryz.isAgg400
 z66:=Tryz.sizeOf400
 v66:=Tryz.zeroValue400
 t70:=Tryz.underlying375
 a70:=Tryz.isAgg375
 z70:=Tryz.sizeOf375
 v70:=Tryz.zeroValue375
 t76:=Tryz.underlying426
 a76:=Tryz.isAgg426
 z76:=Tryz.sizeOf426
 v76:=Tryz.zeroValue426
 t77:=Tryz.underlying427
 a77:=Tryz.isAgg427
 z77:=Tryz.sizeOf427
 v77:=Tryz.zeroValue427}
def Tryz.Ql:Go.Shelf.Ren:=⟨λ|6=>406|15=>218|14=>408|28=>276|29=>277|20=>409|21=>410|22=>411|23=>412|24=>413|25=>414|26=>415|27=>416|46=>417|47=>317|48=>318|49=>418|50=>419|57=>420|n=>n,λ|22=>51|24=>135|25=>466|3=>3|39=>324|0=>0|53=>365|55=>367|4=>4|46=>359|45=>358|50=>273|5=>5|9=>9|66=>400|70=>375|76=>426|77=>427|n=>n,λ|n=>n⟩
def Tryz.VP:Go.Proofs.SlLaysF0.n6 Tryz.prog Tryz.Ql:={
 mixed:=by kernel_rfl
 f6:=⟨Tryz.f406.name,bv,Tryz.func406.trans bn⟩
 f14:=⟨Tryz.f408.name,bv,Tryz.func408.trans bn⟩
 f15:=Tryz.func218.trans bn
 f20:=⟨Tryz.f409.name,bv,Tryz.func409.trans bn⟩
 f21:=⟨Tryz.f410.name,bv,Tryz.func410.trans bn⟩
 f22:=⟨Tryz.f411.name,bv,Tryz.func411.trans bn⟩
 f23:=⟨Tryz.f412.name,bv,Tryz.func412.trans bn⟩
 f24:=⟨Tryz.f413.name,bv,Tryz.func413.trans bn⟩
 f25:=⟨Tryz.f414.name,bv,Tryz.func414.trans bn⟩
 f26:=⟨Tryz.f415.name,bv,Tryz.func415.trans bn⟩
 f27:=⟨Tryz.f416.name,bv,Tryz.func416.trans bn⟩
 f28:=Tryz.func276.trans bn
 f29:=Tryz.func277.trans bn
 f46:=⟨Tryz.f417.name,bv,Tryz.func417.trans bn⟩
 f47:=Tryz.func317.trans bn
 f48:=Tryz.func318.trans bn
 f49:=⟨Tryz.f418.name,bv,Tryz.func418.trans bn⟩
 f50:=⟨Tryz.f419.name,bv,Tryz.func419.trans bn⟩
 f57:=⟨Tryz.f420.name,bv,Tryz.func420.trans bn⟩
 t0:=Tryz.underlying0
 a0:=Tryz.isAgg0
 z0:=Tryz.sizeOf0
 v0:=Tryz.zeroValue0
 t3:=Tryz.underlying3
 a3:=Tryz.isAgg3
 z3:=Tryz.sizeOf3
 v3:=Tryz.zeroValue3
 t4:=Tryz.underlying4
 a4:=Tryz.isAgg4
 z4:=Tryz.sizeOf4
 v4:=Tryz.zeroValue4
 t5:=Tryz.underlying5
 a5:=Tryz.isAgg5
 z5:=Tryz.sizeOf5
 v5:=Tryz.zeroValue5
 t9:=Tryz.underlying9
 a9:=Tryz.isAgg9
 z9:=Tryz.sizeOf9
 v9:=Tryz.zeroValue9
 t22:=Tryz.underlying51
 a22:=Tryz.isAgg51
 z22:=Tryz.sizeOf51
 v22:=Tryz.zeroValue51
 t25:=Tryz.underlying466
 a25:=Tryz.isAgg466
 z25:=Tryz.sizeOf466
 v25:=Tryz.zeroValue466
 t39:=Tryz.underlying324
 a39:=Tryz.isAgg324
 z39:=Tryz.sizeOf324
 v39:=Tryz.zeroValue324
 t45:=Tryz.underlying358
 a45:=Tryz.isAgg358
 z45:=Tryz.sizeOf358
 v45:=Tryz.zeroValue358
 t46:=Tryz.underlying359
 a46:=Tryz.isAgg359
 z46:=Tryz.sizeOf359
 v46:=Tryz.zeroValue359
 t50:=Tryz.underlying273
 a50:=Tryz.isAgg273
 z50:=Tryz.sizeOf273
 v50:=Tryz.zeroValue273
 t53:=Tryz.underlying365
 a53:=Tryz.isAgg365
 z53:=Tryz.sizeOf365
 v53:=Tryz.zeroValue365
 t55:=Tryz.underlying367
 a55:=Tryz.isAgg367
 z55:=Tryz.sizeOf367
 v55:=Tryz.zeroValue367
 t66:=Tryz.underlying400
 a66:=Tryz.isAgg400
 z66:=Tryz.sizeOf400
 v66:=Tryz.zeroValue400
 t70:=Tryz.underlying375
 a70:=Tryz.isAgg375
 z70:=Tryz.sizeOf375
 v70:=Tryz.zeroValue375
 t76:=Tryz.underlying426
 a76:=Tryz.isAgg426
 z76:=Tryz.sizeOf426
 v76:=Tryz.zeroValue426
 t77:=Tryz.underlying427
 a77:=Tryz.isAgg427
 z77:=Tryz.sizeOf427
 v77:=Tryz.zeroValue427}
def Tryz.MY:Go.Shelf.Ren:=⟨λ|5=>279|7=>321|n=>n,λ|23=>267|25=>3|3=>135|4=>4|20=>20|n=>n,λ|n=>n⟩
def Tryz.WI:Go.Proofs.SlLaysW.n5 Tryz.prog Tryz.MY:={
 mixed:=by kernel_rfl
 f5:=⟨Tryz.f279.name,bv,Tryz.func279.trans bn⟩
 f7:=Tryz.func321.trans bn
 t4:=Tryz.underlying4
 a4:=Tryz.isAgg4
 z4:=Tryz.sizeOf4
 v4:=Tryz.zeroValue4
 t20:=Tryz.underlying20
 a20:=Tryz.isAgg20
 z20:=Tryz.sizeOf20
 v20:=Tryz.zeroValue20
 t23:=Tryz.underlying267
 a23:=Tryz.isAgg267
 z23:=Tryz.sizeOf267
 v23:=Tryz.zeroValue267}
end Go.Proofs
namespace Go.Proofs.YtjgjkeponbeekaaGreatDoor
open Go.aw Go.Sort
def bh(n:ah)(P:bc)(a b:Nat):iQ LL 63 (aI n P a b)=true:=kR
def sK(n:ah)(P:bc)(a b:Nat):UA (eE LL 63) (.agg (aI n P a b).toArray)=true:=kR
def G(n P:World):Prop:=∃a b,P=grow (n.drewN a) b
variable{M e r:Int}{d3:Int×Int}{h2:List ((Int×Int)×ah)}{F f8:List ah}{a c i q:Nat}{f:UK}{c8:Obj}{d x:bc}{g:TypeId}{a6 b k:World}{y:ba}{N l:ah}{H:au}
def G.then(d:G b k)(e:G k a6):G b a6:=by
 obtain⟨n,P,rfl⟩:=d;obtain⟨a,c,rfl⟩:=e;exact⟨n+a,P++c,by show grow (grow ((b.drewN n).drewN a) P) c=_;rw[grow_grow,World.drewN_drewN]⟩
def G.keep{S:UK}(n:G b k):aj S b k:=by
 obtain⟨d,P,rfl⟩:=n;refine⟨rfl,rfl,rfl,by simp[grow],λa c _=>?_⟩;show(b.heap++P)[a]? =_;rw[Array.getElem?_append_left c]
def G.drew(n:cf b k):G b k:=by obtain⟨P,rfl⟩:=n;exact⟨P,#[],sM⟩
def PA.Yo(P:∀n,G b n->n.heap.size=b.heap.size+1->n.heap[b.heap.size]? =some c8->y n):PA b c8 y:=
 P (b.alloc c8) ⟨0,#[c8],by rw[alloc_eq_grow];rfl⟩ sM (heap_alloc_new b c8)
def isNaN:be 278 #[WP e] b (Ok λn P=>n= .bool false/\b=P):=Ab (Ok.mk ⟨sM,rfl⟩)
def Kv(n P:Int):Int:=if n<P then-1 else if P<n then 1 else 0
def iB:be 220 #[WP e,WP r] b (Ok λa c=>a= WP (Kv e r)/\b=c):=by
 refine vL (PC.ok isNaN ?_);rintro _ _ ⟨rfl,rfl⟩;refine⟨_,rfl,PC.ok isNaN ?_⟩;rintro _ _ ⟨rfl,rfl⟩;refine⟨_,rfl,al.ff rfl (al.ff rfl (al.dec (λn=>Ok.mk ⟨by unfold Kv;rw[Zx n],rfl⟩) (λn=>al.dec (λP=>Ok.mk ⟨by unfold Kv;rw[Zq n,Zx P],rfl⟩) (λP=>Ok.mk ⟨by unfold Kv;rw[Zq n,Zq P],rfl⟩))))⟩
def Od:List Int->Int
 |[]=>0
 |x::n=>if x≠0 then x else Od n
def QU(q:b.heap[a]? =some (.cells #[WP e,WP r,WP M] g (0,0))):
  be 219 #[.slice (UV a) 3 3] b (Ok λh d=>h= WP (Od [e,r,M])/\b=d):=by
 refine GR ⟨λk c d=>∃n:Nat,c=n/\n<=3/\k=3-n/\Od [e,r,M]=Od ([e,r,M].drop n)/\b=d,⟨_,0,rfl,oM,rfl,rfl,rfl⟩,?_⟩;rintro k c _ _ ⟨n,rfl,w,rfl,i,rfl⟩;refine al.dec (λs=>?_) (λs=>?_)
 ·have t:∀f:Int,[e,r,M][n]? =some f->∃l m,(UV a:bc)=some ⟨l,m,none⟩/\(0:Int)<=n/\(n:Int)<((3:Nat):Int)/\∃j:Int,b.cell? ⟨l,m+Int.toNat n,none⟩=some (WP j)/\al (j !=0) (Ok (λh d=>h= WP (Od [e,r,M])/\b=d) (.returned (WP j)) b) (∃o,o<3-n/\∃c:Nat,PP .i64 ((n:Int)+1)=c/\c<=3/\o=3-c/\Od [e,r,M]=Od ([e,r,M].drop c)/\b=b):=by
   intro f P;have p:[e,r,M].drop n=f::[e,r,M].drop (n+1):=by
    rw[X4 cS];congr 1;simpa using(Qv.1 P).2
   refine⟨a,0,rfl,oM,oM,f,ae q ?_,al.eK (λu=>Ok.mk ⟨?_,rfl⟩) (λv=>⟨_,oM,n+1,aq oM,oM,rfl,?_,rfl⟩)⟩
   ·rw[Xz]
    match n,P with
    |0,P=>simp at P;simp[P]
    |1,P=>simp at P;simp[P]
    |2,P=>simp at P;simp[P]
    |n+3,P=>simp at P
   ·rw[i,p,Od,Zx u]
   ·rw[i,p,Od,Zq (by simpa using v)]
  have P:n<[e,r,M].length:=by simp;omega
  exact t [e,r,M][n] (by simp[P])
 ·obtain rfl:n=3:=oM
  exact Ok.mk ⟨by rw[i];rfl,rfl⟩
def Ig(n P:ah):Od [Kv n.aB P.aB,Kv n.origin P.origin,Kv n.seq P.seq]=tq n P:=by
 unfold tq eU Kv Od Od Od Od
 by_cases d:n.aB<P.aB
 ·simp[d]
 by_cases g:P.aB<n.aB
 ·simp[d,g];omega
 have a:n.aB=P.aB:=oM
 by_cases e:n.origin<P.origin
 ·simp[a,e]
 by_cases h:P.origin<n.origin
 ·simp[a,e,h];omega
 have b:n.origin=P.origin:=oM
 by_cases c:n.seq<P.seq
 ·simp[a,b,c]
 by_cases f:P.seq<n.seq
 ·simp[a,b,c,f]
 ·simp[a,b,c,f]
def CX:be 155 #[.agg (aI l d a c).toArray,.agg (aI N x i q).toArray] b (Ok λh j=>h= WP (tq l N)/\G b j):=by
 refine xD (PA.Yo λs k t m=>PA.Yo λu f v o=>λw p=>⟨λ_=>False,?_⟩);have n:=G.drew p;have P:=(n.keep (S:=λ_=>False)).get ((f.keep (S:=λ_=>False)).get m id) id;have e:=(n.keep (S:=λ_=>False)).get o id;refine⟨_,ae P rfl,_,ae e rfl,id,_,ae P rfl,id,_,ae e rfl,id,_,ae P rfl,id,_,ae e rfl,PC.ok iB ?_⟩;rintro _ _ ⟨rfl,rfl⟩;refine⟨_,rfl,aj.refl _,PC.ok iB ?_⟩;rintro _ _ ⟨rfl,rfl⟩;refine⟨_,rfl,aj.refl _,PC.ok iB ?_⟩;rintro _ _ ⟨rfl,rfl⟩;refine⟨_,rfl,aj.refl _,PA.Yo λy g z r=>⟨g.keep,PC.ok (QU r) ?_⟩⟩;rintro _ _ ⟨rfl,rfl⟩;exact⟨_,rfl,aj.refl _,Ok.mk ⟨by rw[Ig],((k.then f).then n).then g⟩⟩
structure Tl where
 e:ah
 a:bc
 n:Nat
 c:Nat
instance:Inhabited Tl:=⟨⟨⟨0,0,0,[],0,0,0,0,0,0⟩,none,0,0⟩⟩
def encS(n:Tl):List Value:=aI n.e n.a n.n n.c
def Tm(P:Tl):∀a∈encS P,a.oneCell'=true:=by
 intro b n;simp only[encS,aI,Q2,List.not_mem_nil,or_false]at n;rcases n with rfl|rfl|rfl|rfl|rfl|rfl|rfl|rfl|rfl|rfl<;>rfl
def AH(n P:Tl):ltOf (λn P:Tl=>tq n.e P.e) n P=eU n.e P.e:=by
 unfold ltOf tq
 cases a:eU n.e P.e
 ·cases b:eU P.e n.e<;>simp[a,b]
 ·simp[a]
def ke:eU l N=true↔l.aB<N.aB\/l.aB=N.aB/\(l.origin<N.origin\/l.origin=N.origin/\l.seq<N.seq):=by simp[eU]
def uZ:eU l N=false↔¬(l.aB<N.aB\/l.aB=N.aB/\(l.origin<N.origin\/l.origin=N.origin/\l.seq<N.seq)):=by rw[<-ke];simp
def Yp:SWO (ltOf λn P:Tl=>tq n.e P.e) where
 irrefl n:=by rw[AH,uZ];omega
 trans n P z h1 h2:=by rw[AH,ke]at*;omega
 ntrans n P z h1 h2:=by rw[AH,uZ]at*;omega
def Kw{c:World}{D:UK}:∀{a:List ah} {cs:List Value},bY lb c D a cs->∃P:List Tl,P.map (·.e)=a/\cs=P.flatMap encS/\∀n∈P,Row aP 8 c D n.a n.n n.e.aN/\n.e.Ok
 |[],_,d=>⟨[],rfl,d,sM⟩
 |e::a,_,⟨r,s,f,⟨g,h,i,j,k,l⟩,m⟩=>by
  obtain⟨P,o,p,q⟩:=Kw m;refine⟨⟨e,g,h,i⟩::P,by simp[o],by rw[f,j,p];rfl,?_⟩;intro n b;rcases Q2.1 b with rfl|b
  ·exact⟨k,l⟩
  ·exact q n b
def zi{a:World}{D:UK}:∀{n:List Tl},(∀x∈n,Row aP 8 a D x.a x.n x.e.aN/\x.e.Ok)->bY lb a D (n.map (·.e)) (n.flatMap encS)
 |[],_=>rfl
 |x::n,P=>⟨encS x,n.flatMap encS,rfl,⟨x.a,x.n,x.c,rfl,(P x (QV ..)).1,(P x (QV ..)).2⟩,zi λb c=>P b (QJ _ c)⟩
def sq{n:List Tl}(P:a<n.length*10):(n.flatMap encS)[a]? =(encS n[a/10]!)[a % 10]? :=by
 induction n generalizing a with
 |nil=>simp at P
 |cons d n e=>
  have f:(encS d).length=10:=rfl;rw[List.flatMap_cons]
  by_cases b:a<10
  ·rw[XW oM,Nat.div_eq_of_lt b,Nat.mod_eq_of_lt b];rfl
  ·rw[X8 oM,f,e (by simp at P;omega)]
   obtain⟨c,rfl⟩:∃c,a=c+10:=⟨a-10,oM⟩
   rw[Nat.add_sub_cancel,Nat.add_div_right _ dC,Nat.add_mod_right];simp
def iI(n:List Tl):(n.flatMap encS).length=n.length*10:=by
 induction n with
 |nil=>rfl
 |cons P n a=>rw[List.flatMap_cons,QX,a];have b:(encS P).length=10:=rfl;rw[b];simp;omega
def CY(n:List Tl):(flatK encS 10 n.toArray).toList=n.flatMap encS:=by
 apply X3;intro P
 by_cases a:P<n.length*10
 ·rw[sq a]
  have d:P<(flatK encS 10 n.toArray).size:=by simpa using a
  have b:=get_flatK encS 10 n.toArray P (by simpa using a);rw[getElem!_pos _ P d]at b;have e:(encS n[P/10]!).length=10:=rfl;have c:P % 10<(encS n[P/10]!).length:=by rw[e];omega
  rw[Qq (by simpa using a),Qq c]
  congr 1
  rw[Array.getElem_toList,b];rw[getElem!_pos _ _ (by simpa using c)]
  congr 1
  simp
 ·rw[Q7 (by simpa using a),Q7 (by rw[iI];omega)]
def CW(n:List ah):Prop:=n.Pairwise λP a=>eU a P=false
def Ks(l:aU lb 63 f b d a c F)(t:F.length<=20000000):
  be 154 #[.slice d a c,.func (.func 155) #[] #[]] b (Ok λM u=>M= .tuple #[]/\∃A,A.Perm F/\CW A/\aU lb 63 f u d a c A/\aj (λm=>aG d=some m) b u):=by
 obtain⟨cs,D,B,Z,N⟩:=l.body;obtain⟨P,C,rfl,a4⟩:=Kw Z;have E:=l.len dC;have v:P.length=a:=by rw[E,<-C];simp
 rcases B.cases with⟨rfl,rfl,rfl,h0⟩|⟨g,i,rfl,w,O,H,Q⟩
 ·have hd:P=[]:=QW v
  refine(AnyF.slices_SortFunc_none Tryz.VO none 0 _ b).mono ?_;rintro p u ⟨rfl,rfl⟩;exact Ok.mk ⟨rfl,F,List.Perm.refl _,by rw[<-C,hd];exact List.Pairwise.nil,l,aj.refl _⟩
 ·have R:lb.k=10:=rfl
  rw[R]at Q H;have a5:flatK encS 10 P.toArray=(P.flatMap encS).toArray:=by rw[<-CY]
  have hH:HoldsK encS 10 b g 0 P.toArray:=by
   intro j q;rw[size_flatK]at q;simp only[List.size_toArray]at q;have S:j<(P.flatMap encS).length:=by rw[iI];exact q
   refine⟨?_,by simp[World.frozen?,w]⟩;have k:(flatK encS 10 P.toArray)[j]! =(P.flatMap encS)[j]:=by
    rw[a5,getElem!_pos _ j (by simpa using S)];simp
   rw[k,Xz];refine ae w ?_;have h:(i.toList.take (a*10))[j]? =some (P.flatMap encS)[j]:=by rw[Q];exact Qq S
   rw[Xw,Zx oM]at h;simpa using h
  have t:=B.row;have I:c<=maxLen:=by
   obtain⟨_,a0,_,T,_,_,_,I,_⟩:=B.row.2.resolve_left (by rintro⟨l,_⟩;cases l);simp only[XX]at T;rw[T.2.2];exact I
  have a6:P.toArray.size<4611686018427387904:=by
   simp only[List.size_toArray,v];omega
  have U:=AnyQ.slices_SortFunc Tryz.VO 10 (λb=>dI _ _ _ kR ⟨_,Tryz.underlying63⟩ b) (λb=>Tryz.sizeOf63 b) encS (λ_=>rfl) Tm (λx V=>tq x.e V.e) Yp 155 #[] g 0 c P.toArray b
   (enters_of Tryz.func155 kR rfl) (λb0 r dk b1 x V=>(CX).mono ?_) hH (aA w) a6
  ·rw[show P.toArray.size=a by simpa using v]at U
   refine U.mono ?_;rintro p u ⟨rfl,e,y,r,hp,hs,rfl⟩;obtain⟨p1,p2,W⟩:=hp;have n:e.size=a:=p1.trans (by simpa using v);have X:e.toList.Perm P:=by
    have k:e.extract 0 a=e:=by rw[<-n];exact Array.extract_size
    have h:P.toArray.extract 0 a=P.toArray:=by rw[show a=P.toArray.size by simpa using v.symm];exact Array.extract_size
    rw[k,h]at W;exact W
   have a1:flatK encS 10 e=(e.toList.flatMap encS).toArray:=by rw[<-CY]
   have J:(sortWorldK encS 10 b g 0 y e r).heap[g]? =some (.cells (putCells id 0 (flatK encS 10 e) i) 63 (0,0)):=by
    have a7:=aA w;show((Sort.ahead b y).heap.modify g _++r)[g]? =_;rw[Array.getElem?_append_left (by simpa[Sort.ahead]using a7),Array.getElem?_modify,Zx rfl];show Option.map _ b.heap[g]? =_;rw[w];rfl
   have z:aj (λm=>aG (UV g)=some m) b (sortWorldK encS 10 b g 0 y e r):=by
    refine⟨rfl,rfl,rfl,?_,λa2 z E=>?_⟩
    ·show b.heap.size<=((Sort.ahead b y).heap.modify g _++r).size
     simp[Sort.ahead]
    ·show((Sort.ahead b y).heap.modify g _++r)[a2]? =_
     rw[Array.getElem?_append_left (by simpa[Sort.ahead]using z),Array.getElem?_modify,Zq (λp=>E (by rw[p];rfl))]
     rfl
   have a3:(putCells id 0 (flatK encS 10 e) i).size=c*10:=by unfold putCells;rw[Array.size_mapIdx];exact H
   refine Ok.mk ⟨rfl,e.toList.map (·.e),by rw[<-C];exact X.map _,?_,⟨⟨e.toList.flatMap encS,D,⟨⟨?_,.inr ⟨g,c,_,rfl,Qj _,J,O,I,a3,?_⟩⟩⟩,zi λx hx=>?_,N⟩,l.self,λm t=>Qk (l.aF m t) z.size⟩,z⟩
   ·unfold CW
    rw[List.pairwise_map,List.pairwise_iff_getElem];intro Y j hi q a8;have k:=hs Y j (Qj _) a8 (by simpa[n]using q);rw[AH,getElem!_pos _ j (by simpa using q),getElem!_pos _ Y (by simpa using hi)]at k;simpa using k
   ·rw[iI,XK,n];rfl
   ·apply X3
    intro s;rw[R,Xw];split
    ·rename_i o
     rw[sq (by rw[XK,n];exact o),<-sq (by rw[XK,n];exact o)];unfold putCells;have a9:s<i.size:=by rw[H];exact Qk o (Q0 _ O)
     rw[Array.getElem?_toList,Array.getElem?_mapIdx,X6 a9];simp only[Option.map_some];have K:s<(flatK encS 10 e).size:=by rw[size_flatK,n];exact o
     rw[Zx ⟨Qj _,by rw[Xz];exact K⟩,Nat.sub_zero,getElem!_pos _ s K];have:(flatK encS 10 e)[s]=(e.toList.flatMap encS)[s]'(by rw[iI,XK,n];exact o):=by
      have h:=Zj (·[s]?) a1;simp only[List.getElem?_toArray]at h;rw[X6 K,Qq (by rw[iI,XK,n];exact o)]at h;exact XJ h
     rw[this];exact(Qq _).symm
    ·rename_i o
     rw[Q7 (by rw[iI,XK,n];omega)]
   ·have L:x∈P:=X.mem_iff.1 hx
    obtain⟨k,h⟩:=a4 x L;exact⟨k.keep z λm t p=>(N m t).2 p,h⟩
  ·rintro p u ⟨M,rfl,rfl,hG⟩
   exact⟨rfl,hG⟩
open Go.aw
abbrev VU(n:List ah):Prop:=n.Pairwise λP a=>eU P a=true
structure au.OK (S:au):Prop where
 n:S.n<=64
 Q_:VU S.l
 ids:(S.l.map bd).Nodup
 Yw:∀e∈S.l,cR e S.n=0
 ok:∀e∈S.l,e.Ok
def Gn(P:bd l≠bd N):eU l N=true\/eU N l=true:=by
 rw[ke,ke];have:¬(l.origin=N.origin/\l.seq=N.seq):=λn=>P (by unfold bd;rw[n.1,n.2]);omega
def tX{n P a:ah}(b:eU n P=true)(c:eU P a=true):eU n a=true:=by rw[ke]at*;omega
def nR(n:eU l N=true):eU N l=false:=by rw[ke]at n;rw[uZ];omega
def cN(P:ah):∀n,(dN P n).Perm (P::n)
 |[]=>List.Perm.refl _
 |x::n=>by
  unfold dN;split
  ·exact List.Perm.refl _
  ·exact(List.Perm.cons x (cN P n)).trans (List.Perm.swap P x n)
def xi{c:ah}:∀{P},VU P->(∀x∈P,bd x≠bd c)->VU (dN c P)
 |[],_,_=>by unfold dN;exact List.pairwise_singleton ..
 |x::P,d,e=>by
  obtain⟨f,g⟩:=List.pairwise_cons.1 d;unfold dN;split
  ·rename_i b
   exact List.pairwise_cons.2 ⟨λa n=>by
    rcases Q2.1 n with rfl|n
    ·exact b
    ·exact tX b (f a n),d⟩
  ·rename_i b
   refine List.pairwise_cons.2 ⟨λa n=>?_,xi g λa n=>e a (QJ _ n)⟩;rcases Q2.1 ((cN c P).mem_iff.1 n)with rfl|n
   ·exact(Gn (e x (QV ..))).resolve_right (by simpa using b)
   ·exact f a n
def MX(f:CW F)(g:VU f8)(b:F.Perm f8)(i:(F.map bd).Nodup):F=f8:=by
 refine b.eq_of_pairwise (le:=λP n=>eU n P=false) (λP n j k c d=>?_) f (g.imp λh=>nR h)
 by_cases e:bd P=bd n
 ·have a:n∈F:=b.mem_iff.2 k
  obtain⟨o,l,rfl⟩:=List.getElem_of_mem j;obtain⟨p,m,rfl⟩:=List.getElem_of_mem a;have:=(List.getElem_inj (xs:=F.map bd) (h₀:=by simpa using l) (h₁:=by simpa using m) i).1 (by simpa using e);subst this;rfl
 ·rcases Gn e with h|h
  ·rw[h]at d;cases d
  ·rw[h]at c;cases c
def Vf(P:(F.map bd).Nodup)(n:l∈F):F.find? (λa=>bd a==bd l)=some l:=by
 induction F with
 |nil=>cases n
 |cons a F b=>
  simp only[QY,List.nodup_cons]at P;rcases Q2.1 n with rfl|n
  ·simp
  ·have c:bd a≠bd l:=λd=>P.1 (d▸Xk.2 ⟨l,n,rfl⟩)
   rw[List.find?_cons_of_neg (by simpa using c)];exact b P.2 n
def au.get_some(n:H.get d3=some l):l∈H.l/\bd l=d3:=
 ⟨List.mem_of_find?_eq_some n,by simpa using List.find?_some n⟩
def au.get_none(P:H.get d3=none):∀n∈H.l,bd n≠d3:=λn a=>by
 have:=List.find?_eq_none.1 P n a;simpa using this
def au.OK.get(n:H.OK)(P:l∈H.l):H.get (bd l)=some l:=Vf n.ids P
def Kr(g:H.OK)(c:∀n∈h2,n.1=bd n.2)(d:(h2.map (·.2)).Perm H.l)(k:Tidy h2)(P:Int×Int):an h2 P=H.get P:=by
 cases a:an h2 P with
 |none=>
  rw[jJ]at a
  symm
  refine List.find?_eq_none.2 λb h=>?_;obtain⟨n,e,rfl⟩:=Xk.1 (d.mem_iff.2 h);intro i;exact a (Xk.2 ⟨n,e,by rw[c n e];simpa using i⟩)
 |some b=>
  have f:=cy a;have j:P=bd b:=c _ f;have:b∈H.l:=d.mem_iff.1 (Xk.2 ⟨_,f,rfl⟩);rw[j,g.get this]
def yp(P:List ah)(n:Int):P.foldl (λn a=>max n a.aB) n=max n (P.foldl (λn a=>max n a.aB) 0)\/n<0:=by
 induction P generalizing n with
 |nil=>simp;omega
 |cons b P c=>
  rw[List.foldl_cons,List.foldl_cons]
  by_cases e:n<0
  ·exact .inr e
  ·rcases c (max n b.aB)with h|h
   ·rcases c (max 0 b.aB)with d|d
    ·left;rw[h,d];omega
    ·omega
   ·omega
def au.Vc(n:au)(P:ah):au.top ⟨n.n,dN P n.l⟩=max n.top P.aB:=by
 show(dN P n.l).foldl _ _=_;rw[(cN P n.l).foldl_eq' (λa _ b _ c=>oM),List.foldl_cons];rcases yp n.l (max 0 P.aB)with h|h
 ·rw[h]
  show max (max 0 P.aB) n.top=_;have:0<=n.top:=by
   rcases yp n.l 0 with h|h
   ·unfold au.top;omega
   ·omega
  omega
 ·omega
def au.MM(n:au):0<=n.top:=by
 rcases yp n.l 0 with h|h
 ·unfold au.top;omega
 ·omega
def nV(n:cR l a=0):0<=l.origin/\l.origin<a/\1<=l.seq/\1<=l.aB/\0<=l.agg/\0<=l.key/\l.aN.length=a/\(∀P∈l.aN,0<=P)/\l.aN.getD l.origin.toNat 0=qf (l.seq-1)/\1<=l.op/\l.op<=5/\0<=l.aZ/\l.aZ<8/\0<=l.field/\l.field<8:=by
 unfold cR at n;split at n
 ·simp at n
 ·rename_i b
  split at n
  ·simp at n
  ·rename_i c
   split at n
   ·simp at n
   ·rename_i g
    split at n
    ·simp at n
    ·rename_i h
     simp only[not_or,List.any_eq_true,Zk,not_exists,not_and]at b;obtain⟨i,j,k,P,m,d⟩:=b;refine⟨oM,oM,oM,oM,oM,oM,oM,λe f=>by have:=d e f;omega,by simpa using c,oM,oM,oM,oM,oM,oM⟩
def au.Gu(n:au)(P:ah)(a:Nat):au.Gt ⟨n.n,dN P n.l⟩ a=n.Gt a+if P.origin=(a:Int)then 1 else 0:=by
 unfold au.Gt;show(dN P n.l).countP _=_;rw[(cN P n.l).countP_eq,List.countP_cons]
 congr 1
 simp
def au.SX(n:au)(P:Nat):n.Gt P<=n.l.length:=List.countP_le_length
def au.bT(n:au):n.vec.length=n.n:=by simp[au.vec]
def au.pM(n:au)(P:a<n.n):n.vec[a]? =some (n.Gt a:Int):=by simp[au.vec,P]
def au.vo(S:au)(n:a<S.n):S.vec.getD a 0=(S.Gt a:Int):=by rw[QQ,S.pM n];rfl
def au.Vd(n:au)(b:ah)(e:b.origin=(a:Int)):au.vec ⟨n.n,dN b n.l⟩=n.vec.set a (n.Gt a+1:Int):=by
 apply X3;intro c
 by_cases P:c<n.n
 ·rw[au.pM ⟨n.n,dN b n.l⟩ P,au.Gu,Xj,n.pM P,n.bT]
  by_cases d:a=c
  ·subst d;simp[e,P]
  ·rw[Zq d,Zq oM];simp
 ·rw[Q7 (by rw[au.bT];exact Nat.le_of_not_lt P),Q7 (by rw[List.length_set,n.bT];omega)]
def au.add_def(n:au)(P:ah):n.add P=if cR P n.n≠0 then(cR P n.n,n)else if(n.get (bd P)).isSome then(16,n)else
 if P.seq≠(n.vec.getD P.origin.toNat 0)+1 then(9,n)else if(List.range n.n).any λa=>!n.m_ P a then(9,n)else(0,⟨n.n,dN P n.l⟩):=rfl
def au.AP(n:H.OK)(f:l.Ok):(H.add l).2.OK/\(H.add l).2.n=H.n:=by
 rw[au.add_def]
 by_cases b:cR l H.n=0
 rotate_left
 ·rw[Zx b];exact⟨n,rfl⟩
 rw[Zq (by simpa using b)]
 by_cases c:(H.get (bd l)).isSome=true
 ·rw[Zx c];exact⟨n,rfl⟩
 rw[Zq c];split
 ·exact⟨n,rfl⟩
 split
 ·exact⟨n,rfl⟩
 have e:H.get (bd l)=none:=by simpa using c
 have d:=cN l H.l;refine⟨⟨n.n,xi n.Q_ (au.get_none e),?_,?_,?_⟩,rfl⟩
 ·refine(d.map bd).nodup_iff.2 ?_
  rw[QY,List.nodup_cons];exact⟨λg=>by obtain⟨a,P,h⟩:=Xk.1 g;exact au.get_none e a P h,n.ids⟩
 ·intro a P
  rcases Q2.1 (d.mem_iff.1 P)with rfl|P
  ·exact b
  ·exact n.Yw a P
 ·intro a P
  rcases Q2.1 (d.mem_iff.1 P)with rfl|P
  ·exact f
  ·exact n.ok a P
def au.tT(n:a<=64):au.OK ⟨a,[]⟩:=⟨n,List.Pairwise.nil,sM,sM,sM⟩
end Go.Proofs.YtjgjkeponbeekaaGreatDoor
namespace Go.aw
open Go
def iy(n:List Int):List UInt8:=bk ((n.length:Int)::n)
def bQ(n:List Int):List UInt8:=cG 2 (iy n)
def kQ(n:List UInt8):List Int×iu:=aW (bD 64 ⟨n,0,0⟩).1.toNat (bD 64 ⟨n,0,0⟩).2
def iY(n:List UInt8):Option (List Int):=
 if(bt n).no≠0\/(bt n).n≠n.length\/(bt n).kind≠2 then none else if iv (kQ (bt n).body).2≠0 then none else some (kQ (bt n).body).1
def FA(n:List UInt8):(∀P∈(kQ n).1,aM P)/\(kQ n).1.length<=64/\(kQ n).2.Fit:=by
 obtain⟨a,e,f,g⟩:=iu.Fit.count (r:=⟨n,0,0⟩) ⟨Qj _,.inl rfl⟩ (m:=64) oM;obtain⟨b,c,d,h⟩:=a.ints (bD 64 ⟨n,0,0⟩).1.toNat;exact⟨c,by show(aW _ _).1.length<=64;rw[d];omega,b⟩
variable{s:List Int}{u:List UInt8}
def PH(n:iY u=some s):(∀P∈s,aM P)/\s.length<=64:=by
 unfold iY at n;split at n
 ·cases n
 split at n
 ·cases n
 ·cases n
  exact⟨(FA _).1,(FA _).2.1⟩
def yi(a:∀n∈s,aM n)(b:s.length<=64):(iy s).length<=585:=by
 have:=fZ (l:=(s.length:Int)::s) (by
  intro n P;rcases Q2.1 P with rfl|P
  ·unfold aM;omega
  ·exact a n P)
 unfold iy;rw[Xq]at this;omega
def r_(n:List Int):(bQ n).length=(iy n).length+9:=fe _ _
def oX(n:∀a∈s,aM a)(b:s.length<=64):iY (bQ s)=some s:=by
 have j:=yi n b;have c:bt (bQ s)=⟨2,iy s,(iy s).length+9,0⟩:=by
  have:=FB (k:=2) (body:=iy s) (r:=[]) dC dC oM
  rwa [List.append_nil]at this
 have d:(iu.mk (iy s) 0 0).At (iy s) (eg (s.length:Int)++(bk (s++[])++[])):=⟨rfl,Qj _,rfl,by rw[List.drop_zero];simp[iy,lq]⟩
 obtain⟨e,f⟩:=d.count (m:=64) cw oM oM;obtain⟨g,h⟩:=iu.At.ints s f n;have P:kQ (iy s)=aW s.length (bD 64 ⟨iy s,0,0⟩).2:=by unfold kQ;rw[e,Qx]
 have i:iv (kQ (iy s)).2=0:=by rw[P];exact iu.At.done (by simpa[bk]using h)
 unfold iY;rw[c,Zq (by simp[r_])];simp only;rw[Zq (by rw[i];simp),P,g]
end Go.aw
namespace Go.Proofs.YtjgjkeponbeekaaGreatDoor
open Go.aw
def GW(n:Int)(P:bO):Int:=P.synced+max 0 (min n ((P.bytes.length:Int)-P.synced))
def tk(n:Int)(P:bO):bO:=P.cut (GW n P)
def ak.ey(D:ak)(n:Int):ak:={D with files:=(D.files.filter λP=>P.2.jP).map (λP=>(P.1,tk n P.2)),jz:=false,dead:=false}
def ak.Jk(D:ak)(n:List (ByteArray×bO)):ak:=⟨D.most,n,D.jz,D.left,D.dead⟩
def ak.iE(D:ak):ak:={D with files:=D.files.filter λn=>n.2.jP}
def DV(n:List (ByteArray×bO))(P:ByteArray×bO->Bool):eZ (n.filter P)<=eZ n:=by
 unfold eZ
 induction n with
 |nil=>simp
 |cons a n b=>
  rw[List.filter_cons];split
  ·simp;omega
  ·simp;omega
variable{w:ByteArray}{M b4 e r:Int}{f9:List ByteArray}{b2 s:List Int}{a c i:Nat}{Z f:UK}{X a1:Operand}{d x:bc}{j:Type}{b:World}
def rr{n:List (ByteArray×j)}(P:Tidy n)(a:ByteArray×j->Bool):Tidy (n.filter a):=List.Nodup.sublist (List.Sublist.map _ List.filter_sublist) P
def ak.Ok.iE{D:ak}(n:D.Ok):D.iE.Ok:=by
 have c:=DV D.files λP=>P.2.jP;have b:=n.fits;have d:=List.length_filter_le (λP:ByteArray×bO=>P.2.jP) D.files;have e:=n.many;unfold ak.used at b;exact⟨n.most,by show eZ (D.files.filter _)<=D.most;omega,by show(D.files.filter _).length<=64;omega,rr n.tidy _,λP a=>n.names P (List.mem_filter.1 a).1,λP a=>n.TD P (List.mem_filter.1 a).1,n.BR,n.BS⟩
def RX{P:List (ByteArray×j)}(b:Tidy P){k e:ByteArray×j->j}{u l:j}(f:(w,u)∈P)(g:∀a∈P,a.1≠w->e a=k a)(p:e (w,u)=l):
  aJ (P.map λn=>(n.1,k n)) w l=P.map λn=>(n.1,e n):=by
 induction P with
 |nil=>cases f
 |cons q P m=>
  obtain⟨n,a⟩:=q;unfold Tidy at b m;simp only[QY,List.nodup_cons]at b;simp only[QY];unfold aJ
  by_cases h:(w==n)=true
  ·have r:w=n:=eq_of_beq h
   subst r;have s:a=u:=by
    rcases Q2.1 f with h|h
    ·cases h;rfl
    ·exact Zz (Xk.2 ⟨_,h,rfl⟩) b.1
   subst s;rw[Zx h,p]
   congr 1
   refine List.map_congr_left λc d=>?_;rw[g c (QJ _ d) λi=>b.1 (Xk.2 ⟨c,d,i⟩)]
  ·have o:n≠w:=λi=>h (by rw[i];simp)
   rw[Zq h,g (n,a) (QV ..) o]
   congr 1
   refine m b.2 ?_ λc d=>g c (QJ _ d);rcases Q2.1 f with H|H
   ·cases H;exact Zz rfl o
   ·exact H
def tl(n:Int)(left:List (ByteArray×ox))(P:ByteArray×bO):bO:=if left.any (λa=>a.1==P.1)then P.2 else tk n P.2
def Md{D:ak}(h:aV b a f D)(e5:aM e):
  be 83 #[RK a,WP e] b (Ok λS t=>∃q,S= .tuple #[]/\aV t a q (D.ey e)/\cz f b q t):=by
 obtain⟨u,x,j⟩:=h.open;have e6:x.filter (λn=>n.2.f.jP)=x.filter (λn=>n.2.f.jP):=rfl;refine ur ⟨a,0,rfl,some u,ae j.head rfl,PC.ok (Ai j.map j.each λn k P i=>(j.Jg n k P i).2.2) ?_⟩;rintro _ v ⟨rfl,c1,B⟩;have c2:∀P,P=u->f P:=λP m=>m▸j.Fr;have r:fD v a f D.iE u (x.filter λn=>n.2.f.jP):=by
  have C:∀n∈x.filter (λn=>n.2.f.jP),n∈x:=λn k=>(List.mem_filter.1 k).1;refine⟨B.get j.head (λm=>j.pr m),c1,?_,⟨λn k=>(j.each.each n (C n k)).keep B λP i=>(j.Jg n (C n k) P i).2.2,λn k c o=>j.each.apart n (C n k) c (C c o),rr j.each.tidy _⟩,λn k=>j.Jg n (C n k),j.Fr,j.pr,j.self,λP i=>Qk (j.aF P i) B.size,j.ok.iE⟩;show D.files.filter _=_;rw[j.files,List.filter_map]
  rfl
 generalize e7:x.filter (λn=>n.2.f.jP)=p at r;have c3:∀n∈p,∀P,n.2.G P->P<v.heap.size:=λn k P i=>(r.each.each n k).aF P i;refine⟨rfl,a,0,rfl,some u,ae r.head rfl,mapRange mF r.map λw2 hR T s2=>?_⟩;have c4:Tidy D.iE.files:=r.ok.tidy;have c5:∀c∈p,vX c∈D.iE.files:=λc o=>by rw[r.files];exact Xk.2 ⟨c,o,rfl⟩
 have a5:cz f b f w2:=⟨((B.mono λP _ i=>c2 P i)).af T,λ_ h=>.inl h⟩
 refine⟨λU t=>∃(left s:List (ByteArray×ox)) (q:UK),cV t v.heap.size u Value.string (p.map eF) (left.map eF)/\U=left.length/\fD t a q (D.iE.Jk (D.iE.files.map λg=>(g.1,tl e left g))) u s/\s.map eF=p.map eF/\
   cz f b q t/\(∀n∈left,n∈p/\an s n.1=some n.2)/\Tidy left/\v.heap.size<t.heap.size/\¬q v.heap.size,
  ⟨_,p,p,f,hR,rfl,?_,rfl,a5,λn k=>⟨k,ry r.each.tidy k⟩,r.each.tidy,oM,λi=>by have:=r.aF _ i;omega⟩,?_⟩
 ·have m:(D.iE.files.map λn=>(n.1,tl e p n))=D.iE.files:=by
   have:∀n∈D.iE.files,(n.1,tl e p n)=n:=λn k=>by
    rw[r.files]at k;obtain⟨c,o,rfl⟩:=Xk.1 k;have:p.any (λg=>g.1==(vX c).1)=true:=List.any_eq_true.2 ⟨c,o,by simp[vX]⟩;unfold tl;rw[Zx this]
   have I:=List.map_congr_left (f:=λn=>(n.1,tl e p n)) (g:=id) this;rw[I,List.map_id]
  rw[m];exact r.af T
 ·rintro U a1 w3 ⟨left,s,q,c6,rfl,V,a7,J,W,y,e2,X⟩
  refine oy c6 (λK=>.inl ⟨rfl,?_⟩) λd S l1 l2 Y c7 c8 c9 Z s4=>.inr ⟨_,_,rfl,rA c9 ?_⟩
  ·have d0:left=[]:=by simpa using K
   subst d0;refine⟨a,0,rfl,V.at.Jf λw5 h5 k5 s5=>⟨a,0,rfl,h5.Az λw6 h6 k6 s6=>Ok.mk ⟨q,rfl,?_,J.trans ⟨k5.then k6,λ_ h=>.inl h⟩⟩⟩⟩;have m:(D.iE.files.map λn=>(n.1,tl e [] n))=(D.files.filter λn=>n.2.jP).map (λn=>(n.1,tk e n.2)):=List.map_congr_left λn _=>by simp[tl]
   rw[m]at h6;exact h6
  ·obtain⟨l,n,P,rfl,rfl,rfl,rfl⟩:=xS c7
   obtain⟨a8,E⟩:=W (d,n) sM;have E:an s d=some n:=E;have a9:∀P,P=v.heap.size->¬q P:=λP m=>m▸X;have w:=V.keep Z λP i m=>a9 P m i;have L:=w.get E;have M:=cy E;have d1:eM Y n.q n.G n.f:=w.each.each _ M;have d2:∀P,n.G P->P<v.heap.size:=c3 _ a8;have b0:∀P,n.G P->q P/\P≠a/\P≠u:=w.Jg _ M;have b1:n.f.bytes.length<=262144:=w.ok.len (cy L);have e3:n.f.synced<=n.f.bytes.length:=w.ok.TD _ (cy L);have e8:n.f=(vX (d,n)).2:=rfl;refine⟨_,_,rfl,λw5 z=>?_⟩;have b2:=d1.keep (z.keep (S:=λ_=>False)) λ_ _ h=>h;have b3:=w.af z.keep;obtain⟨fa,A,fc,F0,F,I,h3,h4⟩:=b2.body;have b4:A=n.f.bytes.length:=I.len dC;have H:(if(if(PP .i64 (((A:Nat):Int)-(n.f.synced:Int)))<e then(PP .i64 (((A:Nat):Int)-(n.f.synced:Int)))else e)>0 then(if(PP .i64 (((A:Nat):Int)-(n.f.synced:Int)))<e then(PP .i64 (((A:Nat):Int)-(n.f.synced:Int)))else e)else 0)=max 0 (min e ((n.f.bytes.length:Int)-n.f.synced)):=by
    rw[wrap_i64 cw,b4];omega
   refine⟨n.q,0,rfl,_,ae F rfl,n.q,0,rfl,fa,A,fc,ae F rfl,n.q,0,rfl,_,ae F rfl,?_⟩;refine PC.ok (by rw[H,wrap_i64 (by unfold aM at*;omega)];exact BV b2 b1) ?_;rintro _ w6 ⟨N,rfl,O,Q⟩
   replace O:eM w6 n.q N (tk e n.f):=O
   have d3:((D.iE.Jk (D.iE.files.map λg=>(g.1,tl e (l++(d,n)::P) g))).fy d (tk e n.f)).Ok:=b3.ok.cut L _;obtain⟨F6,b5,a0⟩:=b3.fj E O Q d3;have d4:=c8.keep (z.keep (S:=λ_=>False)) id id;have d5:=d4.keep Q.keep (λi=>by have:=d2 _ i;omega) (λi=>(b0 _ i).2.2 rfl);have b6:d∉(l++P).map (·.1):=by
    unfold Tidy at y;rw[Q3,QY]at y;rw[Q3];intro b7;have hp:=(List.perm_middle (a:=d) (l₁:=l.map (·.1)) (l₂:=P.map (·.1))).nodup_iff.1 y;exact(List.nodup_cons.1 hp).1 b7
   have b8:Tidy (l++P):=by
    unfold Tidy at y⊢;rw[Q3,QY]at y;rw[Q3];exact(List.nodup_cons.1 ((List.perm_middle (a:=d) (l₁:=l.map (·.1)) (l₂:=P.map (·.1))).nodup_iff.1 y)).2
   have b9:(l++P).any (λc=>c.1==d)=false:=by
    rw[List.any_eq_false];intro c o K;exact b6 (Xk.2 ⟨c,o,eq_of_beq K⟩)
   have fR:aJ (D.iE.files.map λg=>(g.1,tl e (l++(d,n)::P) g)) d (tk e n.f)=D.iE.files.map λg=>(g.1,tl e (l++P) g):=by
    refine RX (u:=n.f) c4 (c5 _ a8) (λc o R=>?_) ?_
    ·have d6:(d==c.1)=false:=beq_false_of_ne (Ne.symm R)
     have m:(l++(d,n)::P).any (λg=>g.1==c.1)=(l++P).any (λg=>g.1==c.1):=by
      rw[List.any_append,List.any_cons,List.any_append,d6,Bool.false_or]
     show tl e (l++P) c=tl e (l++(d,n)::P) c;unfold tl;rw[m]
    ·unfold tl
     rw[Zq (by show¬((l++P).any (λc=>c.1==d)=true);rw[b9];simp)]
   have d7:(D.iE.Jk (D.iE.files.map λg=>(g.1,tl e (l++(d,n)::P) g))).fy d (tk e n.f)=D.iE.Jk (D.iE.files.map λg=>(g.1,tl e (l++P) g)):=by
    unfold ak.fy ak.Jk;simp only[fR]
   rw[d7]at b5;have a4:(aJ s d (⟨n.q,N,tk e n.f⟩:ox)).map eF=p.map eF:=by
    have F:(aJ s d (⟨n.q,N,tk e n.f⟩:ox)).map eF=aJ (s.map eF) d (ptr n.q):=ru (λn:ox=>ptr n.q) s d _;rw[F,rz (k:=d) (v:=ptr n.q) (l:=s.map eF) (Xk.2 ⟨(d,n),M,rfl⟩) w.map.tidy,a7]
   refine⟨rfl,_,?_,l++P,_,F6,by rw[Q3];exact d5,rfl,b5,a4,?_,λc o=>?_,b8,?_,?_⟩
   ·simp
   ·have e4:=B.size
    have d8:cz f b q Y:=⟨J.keep.new Z λP i=>.inr oM,J.new⟩
    exact(d8.trans ⟨z.keep,λ_ h=>.inl h⟩).trans a0
   ·have d9:c∈l++(d,n)::P:=by simp only[Q6,Q2]at o⊢;exact o.imp id .inr
    obtain⟨e0,e1⟩:=W c d9;have R:c.1≠d:=λm=>b6 (Xk.2 ⟨c,o,m⟩);refine⟨e0,?_⟩;rw[bl,Zq (by simpa using R)];exact e1
   ·have:=Q.keep.size;have:=(z.keep (S:=λ_=>False)).size;omega
   ·intro i
    rcases a0.new _ i with h|h
    ·exact X h
    ·have:=(z.keep (S:=λ_=>False)).size;omega
def aO:ByteArray:=⟨#[109,97,110,105,102,101,115,116,46,116,109,112]⟩
def bZ:ByteArray:=⟨#[109,97,110,105,102,101,115,116]⟩
def dR(D:ak):Int×ak:=if(an D.files aO).isSome then D.delete aO else(0,D)
def gH(n:List Int):Nat->ak->Int×ak
 |0,D=>dR D
 |1,D=>D.create aO
 |2,D=>D.append aO (bQ n)
 |3,D=>D.sync aO
 |_,D=>D.rename aO bZ
def kN(n:List Int):Nat->Nat->ak->Int×ak
 |_,0,D=>(0,D)
 |P,a+1,D=>if(gH n P D).1≠0 then((gH n P D).1,(dR (gH n P D).2).2)else kN n (P+1) a (gH n P D).2
def bw(D:ak)(n:List Int):Int×ak:=if 64<n.length then(3,D)else kN n 0 5 D
def dF(D:ak):Option (List Int):=if(D.read bZ).2≠0 then none else iY (D.read bZ).1
def JK(n:List ByteArray):(tA n).Perm n:=List.mergeSort_perm _ _
def Fy{D:ak}:w∈D.list↔(an D.files w).isSome=true:=by
 unfold ak.list;rw[(JK _).mem_iff];constructor
 ·intro n
  cases P:an D.files w with
  |none=>exact Zz n (jJ.1 P)
  |some a=>rfl
 ·intro n
  obtain⟨a,b⟩:=Option.isSome_iff_exists.1 n;exact Xk.2 ⟨_,cy b,rfl⟩
def oW(D:ak):D.list.length=D.files.length:=by unfold ak.list tA;simp
def PG(n:List Int)(c:a<5)(D:ak):kN n a (5-a) D=if(gH n a D).1≠0 then((gH n a D).1,(dR (gH n a D).2).2)else kN n (a+1) (5-(a+1)) (gH n a D).2:=by
 obtain⟨P,b⟩:∃P,5-a=P+1:=⟨4-a,oM⟩
 rw[b,show 5-(a+1)=P by omega]
 rfl
def Hu{D:UK}(P:Row Pb 16 b D d a f9):
  be 292 #[.slice d a c,.string w] b (Ok λo e=>(∃k:Int,o= WP k/\(0<=k↔w∈f9))/\b=e):=by
 have u:=P.len;have p:=P.fh;unfold aR at p;refine kK ⟨λl i e=>∃n:Nat,i=n/\n<=a/\l=a-n/\w∉f9.take n/\b=e,⟨_,0,rfl,Qj _,rfl,sM,rfl⟩,?_⟩;rintro l i _ _ ⟨n,rfl,v,rfl,f,rfl⟩;refine al.dec (λq=>?_) (λq=>?_)
 ·obtain⟨r,g,x,rfl,m,_,s⟩:=P.nE (i:=n) oM
  refine⟨r,g,rfl,oM,oM,_,s,al.Zo (λj=>?_) (λj=>?_)⟩
  ·exact Ok.mk ⟨⟨_,rfl,λ_=>j▸QZ m,λ_=>oM⟩,rfl⟩
  ·refine⟨_,oM,n+1,aq oM,oM,rfl,?_,rfl⟩
   rw[Qw,m];intro t;rcases Q6.1 t with h|h
   ·exact f h
   ·simp at h;exact j h
 ·rw[Qz oM]at f
  exact Ok.mk ⟨⟨_,rfl,λh=>oM,λh=>Zz h f⟩,rfl⟩
def Al{D:UK}(n:Row Pb 16 b D d a f9):
  be 237 #[.slice d a c,.string w] b (Ok λP e=>P= .bool (decide (w∈f9))/\b=e):=by
 refine js (PC.ok (Hu n) ?_);rintro _ _ ⟨⟨g,rfl,f⟩,rfl⟩;exact⟨_,rfl,Ok.mk ⟨by rw[decide_eq_decide.2 f],rfl⟩⟩
def rZ{D:ak}(n:aV b a f D):be 174 #[RK a] b (Ok (vY b a f (dR D))):=by
 refine xG (PC.ok (xV n) ?_);rintro _ l ⟨m,o,p,G,rfl,g,P,q⟩;have r:D.list.length<=64:=by rw[oW];exact n.ok.many
 refine⟨_,_,_,rfl,PC.ok (Al (g.row dC ce)) ?_⟩;rintro _ _ ⟨rfl,rfl⟩;have e:(aO∈D.list)↔(an D.files aO).isSome=true:=Fy;refine⟨_,rfl,al.dec (λc=>PC.ok (yF (n.af P)) λh i j=>mR h i P ?_) (λc=>?_)⟩
 ·have d:dR D=D.delete aO:=by unfold dR;rw[Zx (e.1 c)]
  rw[d];exact j
 ·have d:dR D=(0,D):=by unfold dR;rw[Zq λk=>c (e.2 k)]
  rw[d];exact Ok.mk (vY.same (n.af P) P.keep)
def Cz(C:qT b)(u:Row aP 8 b f d a s)(v:∀h∈s,aM h)(hD:∀P,f P->P<b.heap.size)(E:s.length<=64):
  be 179 #[.agg #[.slice d a c]] b (Ok (qH gw 5 b (bQ s))):=by
 have F:=u.len;refine xH (PA.mk λH I s1 w=>⟨_,_,_,ae w rfl,PC.ok (BW (m:=(a:Int)) cw (Row.nil H λ_=>False) ce λ_ J=>J.elim) ?_⟩);rintro _ L ⟨a2,n2,c2,M,rfl,x,y,N⟩;have O:ai b L:=I.then y;have Q:eg (a:Int)=bk ((a:Int)::s.take 0):=by simp[bk]
 rw[List.nil_append,Q]at x;refine⟨_,_,_,rfl,_,_,_,ae (y.get w id) rfl,λz l m o i A=>∃n:Nat,i=n/\n<=a/\z=a-n/\∃B,aU gw 5 B A l m o (bk ((a:Int)::s.take n))/\ai b A/\∀P,B P->b.heap.size<=P,
  ⟨_,0,rfl,Qj _,rfl,M,x,O,λP j=>by have:=N P j;omega⟩,?_⟩
 rintro z l m o i _ R ⟨n,rfl,hj,rfl,S,e,g,a0⟩;have a1:(bk ((a:Int)::s.take n)).length<=9*(n+1):=by
  have h1:=fZ (l:=(a:Int)::s.take n) (by
   intro h K;rcases Q2.1 K with rfl|K
   ·unfold aM;omega
   ·exact v h (List.mem_of_mem_take K))
  have h2:((a:Int)::s.take n).length=n+1:=by simp;omega
  omega
 have a3:=e.len dC;refine al.dec (λa5=>?_) (λa6=>?_)
 ·obtain⟨P,p,h,rfl,K,T,U⟩:=(u.af g).nE (i:=n) oM
  refine⟨P,p,rfl,oM,oM,_,U,PC.ok (BW T (e.row (bytes:=1) dC ce) ce e.aF) ?_⟩;rintro _ V ⟨W,X,Y,q,rfl,k,r,t⟩;refine⟨_,_,_,rfl,_,?_,n+1,aq oM,oM,rfl,q,?_,g.then r,λP j=>by have:=t P j;have:=g.size;omega⟩
  ·omega
  ·have Z:bk ((a:Int)::s.take (n+1))=bk ((a:Int)::s.take n)++eg h:=by
    rw[Qw,K,<-List.cons_append,je]
    congr 1
    simp[bk]
   rw[Z];exact k
 ·obtain rfl:n=a:=oM
  rw[Qz oM,F]at e
  change aU gw 5 S R l m o (iy s)at e
  have a7:=yi v E;refine PC.ok (ER (C.af g) (e.row (bytes:=1) dC ce) e.aF) ?_;rintro _ V ⟨_,rfl,W,X,Y,q,rfl,k,r,t⟩;rw[show k_ 2 (iy s)=(bQ s,0) by unfold k_ bQ;rw[Zq dC,Zq oM]]at k⊢;exact⟨_,_,_,_,rfl,Ok.mk ⟨_,_,_,q,rfl,k,g.then r,λP j=>by have:=t P j;have:=g.size;omega⟩⟩
def CA{D:ak}(ht:qT b)(hD:aV b a f D)(hl:Row aP 8 b Z d c s)(a8:∀b7∈s,aM b7)(a3:∀n,Z n->n<b.heap.size/\¬f n)(a9:∀n,f n->n≠2/\n≠3):
  be 112 #[RK a,.agg #[.slice d c i]] b (Ok (vY b a f (bw D s))):=by
 have hn:=hl.len;refine xr (PA.mk λw1 k1 s1 g1=>PA.mk λj U s2 g2=>PA.mk λw3 H s3 g3=>⟨_,_,_,ae (H.get g2 id) rfl,al.dec (λh=>?_) (λh=>?_)⟩)
 ·refine PS.mk g3 sM λp B s4 g4=>⟨_,ae g4 rfl,?_⟩
  have k:bw D s=(3,D):=by unfold bw;rw[Zx oM]
  rw[k];have y:ai b p:=((k1.then U).then H).new B λn P=>.inr oM;exact Ok.mk (vY.same (hD.af y) y.keep)
 refine PA.mk λp B s4 g4=>?_;have y:ai b p:=((k1.then U).then H).then B;have k:bw D s=kN s 0 5 D:=by unfold bw;rw[Zq oM]
 rw[k];have I:=hD.aF;refine⟨λa1 M l=>∃(u:Nat) (J:ak) (v:UK),M=u/\u<=5/\a1=5-u/\kN s 0 5 D=kN s u (5-u) J/\aV l a v J/\aj (λn=>f n\/n=j.heap.size) p l/\(∀n,v n->f n\/p.heap.size<=n)/\l.heap[j.heap.size]? =some (.cells #[WP 0] 34 (0,0)),
  ⟨_,0,D,f,rfl,oM,rfl,rfl,hD.af y,aj.refl _,λn P=>.inl P,B.get g3 id⟩,?_⟩
 rintro a1 M _ x ⟨u,J,v,rfl,hi,rfl,N,C,E,V,ge⟩;have W:∀n,b.heap.size<=n->n<p.heap.size->¬v n:=λn h1 h2 hf=>by
  rcases V n hf with h|h
  ·have:=I n h;omega
  ·omega
 have O:x.heap[b.heap.size]? =some (.cells #[RK a] 93 (0,0)):=E.get (B.get (H.get (U.get g1 id) id) id) (λq=>q.elim (λh=>by have:=I _ h;omega) (λh=>oM));have gm:x.heap[w1.heap.size]? =some (.cells #[.slice d c i] 211 (0,0)):=E.get (B.get (H.get g2 id) id) (λq=>q.elim (λh=>by have:=I _ h;omega) (λh=>oM));have Q:=E.get g4 (λq=>q.elim (λh=>by have:=I _ h;omega) (λh=>oM));have c5:=E.size;have w:∀(k:Int) (R:ak) (G:UK) (g:World),aV g a G R->aj (λn=>f n\/n=j.heap.size) p g->(∀n,G n->f n\/p.heap.size<=n)->g.heap[j.heap.size]? =some (.cells #[WP k] 34 (0,0))->
   kN s 0 5 D=(k,if k≠0 then(dR R).2 else R)->
   Lv LL (λb0=>∃A:Int,b0.cell? ⟨j.heap.size,0,none⟩=some (WP A)/\Ok (vY b a f (kN s 0 5 D)) (.returned (WP A)) b0) (λch l=>Ok (vY b a f (kN s 0 5 D)) (.panicked ch) l)
    ([{target:=.fn (.func 173) #[RK j.heap.size,RK b.heap.size],args:= #[]}]:List Deferred) .returning g:=by
  intro k R G g hE r hG X hr;have b8:g.heap[b.heap.size]? =some (.cells #[RK a] 93 (0,0)):=r.get (B.get (H.get (U.get g1 id) id) id) (λq=>q.elim (λh=>by have:=I _ h;omega) (λh=>oM));have m:∀o (K:UK) (E':ak),aV o a K E'->cz G g K o->kN s 0 5 D=(k,E')->∃A:Int,o.cell? ⟨j.heap.size,0,none⟩=some (WP A)/\Ok (vY b a f (kN s 0 5 D)) (.returned (WP A)) o:=by
   intro o K E' a4 t a0;have b9:¬G j.heap.size:=λh=>(hG _ h).elim (λh=>by have:=I _ h;omega) (λh=>oM);have c6:=r.size;refine⟨k,ae (t.keep.get X b9) rfl,Ok.mk ?_⟩;rw[a0];refine⟨K,rfl,a4,?_,λn P=>?_⟩
   ·have c0:aj f b g:=y.keep.new r λn P=>P.imp id λh=>by omega
    exact c0.new t.keep λn P=>(hG n P).imp id λh=>by omega
   ·rcases t.new n P with h|h
    ·exact(hG n h).imp id λh=>by omega
    ·exact .inr oM
  refine Lv.one sM kR (CallsD.mono (sO (R:=λe' o=>e'= .returned (.tuple #[])/\∃A:Int,o.cell? ⟨j.heap.size,0,none⟩=some (WP A)/\Ok (vY b a f (kN s 0 5 D)) (.returned (WP A)) o) ⟨_,ae X rfl,al.eK (λY=>?_) (λh0=>?_)⟩) ?_)
  ·refine⟨_,ae b8 rfl,PC.ok (rZ hE) ?_⟩
   rintro _ o ⟨K,rfl,a4,t⟩;exact⟨_,rfl,rfl,m o K _ a4 t (by rw[hr,Zx Y])⟩
  ·exact⟨rfl,m g G R hE (cz.refl _ _) (by rw[hr,Zq (by simpa using h0)])⟩
  ·rintro e' u' o ⟨rfl,rfl,hX⟩
   exact Lv.ret rfl hX
 refine al.dec (λc7=>?_) (λc8=>?_)
 ·have b1:u<5:=oM
  have step:∀κ ε,(∀z l,vY x a v (gH s u J) z l->κ z l)->∃b2:Value,x.cell? ⟨w3.heap.size,0+Int.toNat (u:Int),none⟩=some b2/\∃a5 a2 a7,b2= .func (.func a5) a2 a7/\enters LL a5=true/\PC LL a5 (a2++ #[]++a7) x κ ε:=by
   intro κ ε e;rw[Qx,Xz];have m:∀{b3:Int×ak} {z l},vY x a v b3 z l->∃M:Int,z= WP M/\Ok (vY x a v b3) (.returned (WP M)) l:=λh=>mR _ _ (aj.refl _) h
   match u,b1,e with
   |0,_,e=>exact⟨_,ae Q rfl,_,_,_,rfl,kR,PC.ok (ux ⟨_,ae O rfl,PC.ok (rZ C) λz l h=>m h⟩) e⟩
   |1,_,e=>exact⟨_,ae Q rfl,_,_,_,rfl,kR,PC.ok (uy ⟨_,ae O rfl,PC.ok (yG C) λz l h=>m h⟩) e⟩
   |2,_,e=>
    refine⟨_,ae Q rfl,_,_,_,rfl,kR,PC.ok (φ:=vY x a v (gH s 2 J)) (uz λg d6=>?_) e⟩;have r:ai x g:=d6.keep;have F:aj (λn=>f n\/n=j.heap.size) p g:=E.then r.keep;have c1:Row aP 8 g Z d c s:=(hl.af y).keep F λn P q=>q.elim (a3 n P).2 λh=>by have:=(a3 n P).1;omega
    have c2:qT g:=by
     have:=(ht.af y)
     have c9:b.heap.size<=p.heap.size:=y.size;have h1:=ht.lt;have hz:=F.size;refine⟨λS hj=>?_,λS hj=>?_,oM⟩
     ·exact(this.lower S hj)▸F.cell (a:=⟨2,S,none⟩) (by show 2<_;omega) (λq=>q.elim (λh=>(a9 _ h).1 rfl) (λh=>by have h:2=j.heap.size:=h;omega))
     ·exact(this.upper S hj)▸F.cell (a:=⟨3,S,none⟩) (by show 3<_;omega) (λq=>q.elim (λh=>(a9 _ h).2 rfl) (λh=>by have h:3=j.heap.size:=h;omega))
    refine⟨v,W _ (Q4 _) oM,_,ae (r.get O id) rfl,_,_,_,ae (r.get gm id) rfl,PC.ok (Cz c2 c1 a8 (λn P=>by have:=(a3 n P).1;have:=y.size;have:=F.size;omega) oM) ?_⟩;rintro _ o ⟨d0,n7,d1,F7,rfl,a6,L,c3⟩;have d2:=r_ s;have d3:=yi a8 oM;refine⟨_,_,_,rfl,L.keep,PC.ok (yH ((C.af r).af L) (a6.row dC ce) (λk=>a6.OW k) λn P=>⟨a6.aF n P,λhf=>by have:=C.aF n hf;have:=c3 n P;have:=r.size;omega⟩) ?_⟩;rintro _ w8 ⟨F8,rfl,c4,t⟩;exact⟨_,rfl,t.keep,Ok.mk ⟨F8,rfl,c4,(cz.mk (ai.keep (r.then L)) λ_ h=>.inl h:cz v x v o).trans t⟩⟩
   |3,_,e=>exact⟨_,ae Q rfl,_,_,_,rfl,kR,PC.ok (uA ⟨_,ae O rfl,PC.ok (EJ C) λz l h=>m h⟩) e⟩
   |4,_,e=>exact⟨_,ae Q rfl,_,_,_,rfl,kR,PC.ok (uB ⟨_,ae O rfl,PC.ok (Ji C) λz l h=>m h⟩) e⟩
  refine⟨_,_,rfl,oM,oM,step _ _ ?_⟩;rintro _ g ⟨F6,rfl,h6,t⟩;have b4:∀n,F6 n->n≠j.heap.size:=λn P k=>by
   subst k;rcases t.new _ P with h|h
   ·exact W _ oM oM h
   ·omega
  have b5:∀n,F6 n->f n\/p.heap.size<=n:=λn P=>by
   rcases t.new n P with h|h
   ·exact V n h
   ·exact .inr oM
  have F:aj (λn=>f n\/n=j.heap.size) p g:=E.new t.keep λn P=>(V n P).imp .inl id;refine⟨_,rfl,PS.mk (t.keep.get ge (W _ oM oM)) sM λo L s7 T=>?_⟩;have h7:=h6.keep L λn P=>b4 n P;have b6:aj (λn=>f n\/n=j.heap.size) p o:=F.then (L.mono λn _ P=>.inr P);rw[PG s b1]at N;refine⟨_,ae T rfl,al.eK (λY=>?_) (λh0=>?_)⟩
  ·refine⟨_,ae T rfl,PS.mk T sM λw8 k8 s8 g8=>?_⟩
   exact w _ _ F6 w8 (h7.keep k8 λn P=>b4 n P) (b6.then (k8.mono λn _ P=>.inr P)) b5 g8 (by rw[N,Zx Y,Zx Y])
  ·rw[Zq (by simpa using h0)]at N
   rw[h0]at T;exact⟨rfl,_,oM,u+1,_,F6,aq oM,oM,rfl,N,h7,b6,b5,T⟩
 ·obtain rfl:u=5:=oM
  refine⟨_,ae ge rfl,PS.mk ge sM λg r s6 X=>?_⟩;refine w 0 J v g (C.keep r λn P k=>W n oM oM P) (E.then (r.mono λn _ P=>.inr P)) V X ?_;rw[N];rfl
def Eb{D:ak}(ht:qT b)(hD:aV b a f D):
  be 109 #[RK a] b (Ok λQ g=>∃l o p G,Q= .tuple #[.agg #[.slice l o p],.bool (dF D).isSome]/\aU aP 3 G g l o p ((dF D).getD [])/\ai b g/\∀n,G n->b.heap.size<=n):=by
 refine zQ (PA.mk λA C s1 g1=>PC.ok (xU (hD.af C)) ?_);rintro _ w2 ⟨_,rfl,a7,n2,c2,F2,rfl,u,R,e8⟩
 change aU gw 5 F2 w2 a7 n2 c2 (D.read bZ).1 at u
 have b3:(D.read bZ).1.length<=262144:=by
  unfold ak.read;split
  ·simp
  ·split
   ·simp
   ·rename_i e7 hf;exact hD.ok.len (cy hf)
 have a3:∀{g},ai A g->g.heap[b.heap.size]? =some (.cells #[.slice none 0 0] 211 (0,0)):=λhk=>hk.get g1 id;have d:dF D=none->∀v,ai A v->PS v ⟨b.heap.size,0,none⟩ (.slice none 0 0) λw=>∃(b4:bc) (b5:Nat) (b6:Nat),w.cell? ⟨b.heap.size,0,none⟩=some (.slice b4 b5 b6)/\
   Ok (λQ g=>∃l o p G,Q= .tuple #[.agg #[.slice l o p],.bool (dF D).isSome]/\aU aP 3 G g l o p ((dF D).getD [])/\ai b g/\∀n,G n->b.heap.size<=n) (.returned (.tuple #[.agg #[.slice b4 b5 b6],.bool false])) w:=by
  intro S v E;refine PS.mk (a3 E) sM λw4 T s4 U=>⟨_,_,_,ae U rfl,?_⟩
  rw[S];exact Ok.mk ⟨none,0,0,λ_=>False,rfl,aU.nil w4,(C.then E).new T λn P=>.inr oM,λ_ h=>h.elim⟩
 refine⟨_,_,_,_,rfl,al.eK (λk=>d (by unfold dF;exact Zx k) w2 R) (λS=>?_)⟩;have B:dF D=iY (D.read bZ).1:=by unfold dF;exact Zq λh=>h S
 generalize(D.read bZ).1=F at u b3 B;have d6:=u.len dC;refine PC.ok (ES (ht.af (C.then R)) (u.row (bytes:=1) dC ce) u.lE u.aF) ?_;rintro _ v ⟨c0,n3,c3,F3,rfl,b7,E,e9⟩;refine⟨_,_,_,_,_,_,rfl,PA.mk λw4 T s4 U=>PS.mk U sM λw5 k5 s5 g5=>PS.mk g5 sM λx k6 s6 g6=>?_⟩;have V:x.heap[v.heap.size]? =some (.cells #[WP (bt F).kind,.slice c0 n3 c3] 277 (0,0)):=g6;have W:ai v x:=(T.new k5 λn P=>.inr oM).new k6 λn P=>.inr oM;have s:ai A x:=(R.then E).then W;have f8:=W.size;refine al.eK (λk=>d (by rw[B];unfold iY;exact Zx (.inl k)) x s) (λb8=>?_);refine al.eK (λk=>d (by rw[B];unfold iY;exact Zx (.inr (.inl λe=>k (by rw[e,d6])))) x s) (λg0=>?_);refine⟨_,ae V rfl,al.eK (λk=>d (by rw[B];unfold iY;exact Zx (.inr (.inr k))) x s) (λd7=>?_)⟩;have X:dF D=if iv (kQ (bt F).body).2≠0 then none else some (kQ (bt F).body).1:=by
  rw[B];unfold iY;refine Zq ?_;rintro(h|h|h)
  ·exact h b8
  ·exact h oM
  ·exact h d7
 have Y:=b7.af W;obtain⟨g2,h9,d8⟩:=wo b8;generalize(bt F).body=c at Y X d8 V b7;refine⟨_,_,_,ae V rfl,PC.ok (EM (Y.row (bytes:=1) dC ce) Y.aF) ?_⟩;rintro _ w ⟨H,a4,rfl,I,k7,hP⟩;refine⟨_,rfl,PA.mk λw8 k8 s8 g8=>PC.ok (Jl (m:=64) (I.af k8)) ?_⟩;rintro _ t ⟨rfl,Z,k9⟩;have b9:=I.aF;have hq:=I.self;have g3:=b9 H hq;have g7:=hP H hq;obtain⟨c1,a8,c5,c4⟩:=iu.Fit.count (r:=⟨c,0,0⟩) ⟨Qj _,.inl rfl⟩ (m:=64) oM;have g9:t.heap[w.heap.size]? =some (.cells #[.slice none 0 0] 211 (0,0)):=k9.get g8 (λe=>oM);have J:kQ c=aW (bD 64 ⟨c,0,0⟩).1.toNat (bD 64 ⟨c,0,0⟩).2:=rfl;have K:ai A t:=((s.then k7).then k8).new k9 λn P=>.inr (by have:=s.size;omega);generalize h2:bD 64 ⟨c,0,0⟩=ct at Z c1 a8 c5 c4 J;obtain⟨cn,L⟩:=ct;simp only at Z c1 a8 c5 c4 J;refine⟨_,rfl,λm a5 g=>∃i:Nat,a5=i/\(i:Int)<=cn/\m=cn.toNat-i/\fE g H a4 (aW i L).2/\ai A g/\∃l o p G,g.heap[w.heap.size]? =some (.cells #[.slice l o p] 211 (0,0))/\aU aP 3 G g l o p (aW i L).1/\(∀n,G n->t.heap.size<=n)/\t.heap.size<=g.heap.size,
  ⟨_,0,rfl,a8,rfl,Z,K,none,0,0,λ_=>False,g9,aU.nil t,λ_ h=>h.elim,Q4 _⟩,?_⟩
 have h3:=k9.size;rintro m a5 _ c6 ⟨i,rfl,hj,rfl,a0,M,c7,c8,c9,d0,a9,y,q,f0⟩;have d9:∀n,a4 n->n<t.heap.size:=λn P=>by have:=b9 n P;omega
 refine al.dec (λh4=>?_) (λh5=>?_)
 ·intro N b0
  have j:ai c6 N:=b0.keep;refine⟨(λn=>n=H\/d0 n),λhs=>hs.elim (λe=>oM) (λe=>by have:=q _ e;omega),_,_,_,ae (j.get a9 id) rfl,PC.ok (GZ (a0.af j)) ?_⟩;rintro _ d1 ⟨rfl,d2,r⟩;obtain⟨f1,f2,f3,f4⟩:=c1.ints i;obtain⟨f5,f6,f7⟩:=f1.int;refine⟨_,rfl,r.mono λn _ P=>.inl P,?_⟩;have a1:=(y.af j).keep r λn P e=>by have:=q n P;omega
  refine PA.mk λh6 z h7 e0=>⟨z.keep,?_⟩
  have d3:=a1.af z;have d4:(aW i L).1.length=i:=f3;refine lQ d3 vm (D:=(·=d1.heap.size)) (Row.lit e0 [(fq (aW i L).2).1] rfl (λf9 hx=>by simp at hx;subst hx;exact f6) (by unfold aR;simp)) (λn e=>⟨oM,λe2=>by have:=a1.aF n (a1.self n e2);omega⟩) (by rw[d4];unfold aR;simp;omega) (by rw[d4];unfold maxLen;simp;omega) λb1 e1 e3 h8 a2 O _ d5=>?_
  replace a2:=a2.alone
  have e4:e3.heap[w.heap.size]? =some (.cells #[.slice c7 c8 c9] 211 (0,0)):=O.get (z.get (r.get (j.get a9 id) (λe=>oM)) id) (λe=>by have:=q _ (y.self _ e);omega);have z1:=j.size;have z2:=r.size;have z3:=z.size;have z4:=O.size;have a6:∀n,aG b1=some n->t.heap.size<=n:=λn P=>by
   rcases d5 n P with h|h
   ·exact q n h
   ·omega
  refine⟨_,_,_,rfl,PS.mk e4 sM λi0 b2 i1 e5=>⟨_,oM,i+1,aq oM,oM,rfl,?_,?_,b1,_,e1,(λn=>aG b1=some n),e5,?_,a6,oM⟩⟩
  ·refine(((d2.af z).keep O λn P e=>by have:=d9 n P;have:=q n (y.self n e);omega)).keep b2 λn P e=>by have:=I.aF n P;omega
  ·refine((((M.then j).new r λn P=>.inr (by have:=s.size;omega)).then z).new O λn P=>.inr (by have:=q n (y.self n P);have:=K.size;omega)).new b2 λn P=>.inr (by have:=(s.then k7).size;omega)
  ·exact a2.keep b2 λn P e=>by have:=a6 n P;omega
 ·obtain rfl:cn=(i:Int):=oM
  rw[Qx]at J;rw[<-J]at a0 y;refine PC.ok (NB a0) ?_;rintro _ N ⟨rfl,b0⟩;have j:ai c6 N:=b0.keep;refine⟨_,rfl,al.eK (λk=>d (by rw[X];exact Zx k) N (M.then j)) (λh0=>?_)⟩;have hS:dF D=some (kQ c).1:=by rw[X];exact Zq λh=>h h0
  rw[hS];refine⟨_,_,_,ae (j.get a9 id) rfl,PS.mk (a3 (M.then j)) sM λd1 r i2 e6=>⟨_,_,_,ae e6 rfl,Ok.mk ⟨c7,c8,c9,d0,rfl,?_,?_,?_⟩⟩⟩
  ·exact(y.af j).keep r λn P e=>by have:=q n P;have:=K.size;omega
  ·exact(C.then (M.then j)).new r λn P=>.inr oM
  ·intro n P;have:=q n P;have:=K.size;omega
def Wt:(do eqGuard .eql 46 X a1 (.agg #[WP e,WP r]) (.agg #[WP M,WP b4]);binOp .eql 46 (.agg #[WP e,WP r]) (.agg #[WP M,WP b4]):Sem Value).run LL b= .ok (.bool (e==M&&r==b4)) b:=by
 have c:Tryz.prog.underlying 46=some (.struct (Tryz.prog.fieldsOf 46)):=kR
 have a:Tryz.prog.underlying 3=some (.int .i64):=kR
 have n:(Tryz.prog.fieldsOf 46).toList.map (λP=>(P.name,P.type,P.offset))=[("Origin",3,0),("Seq",3,1)]:=kR
 rw[Sem.run_bind,run_eqGuard_agg b .eql _ X a1 _ _ kR,Result.andThen_ok,run_eql_struct,run_equalIn_struct b 9999 _ _ _ c kR];generalize(Tryz.prog.fieldsOf 46).toList=d at n
 match d,n with
 |[P,s],n=>
  simp only[QY,List.map_nil,List.cons.injEq,Prod.mk.injEq,and_true]at n;obtain⟨⟨f,g,h⟩,i,j,k⟩:=n;have l:(isAgg 3).run LL b= .ok false b:=dI _ _ _ kR ⟨_,a⟩ b;have m:=run_equalIn_int (P:=LL) b 9998 3 .i64 .i64 e M a;have o:=run_equalIn_int (P:=LL) b 9998 3 .i64 .i64 r b4 a;unfold Op.eqFields Op.eqFields Op.eqFields;rw[f,g,h,i,j,k]
  cases p:e==M<;>simp[part,l,m,o,p]
  by_cases q:r=b4<;>simp[q]
 |[],n=>simp at n
 |[_],n=>simp at n
 |_::_::_::_,n=>simp at n
def Dy{a j r t:Nat}{D u:UK}(c:Row aP 8 b D d a s)(k:Row aP 8 b u x j b2):
  be 14 #[.slice d a r,.slice x j t] b (Ok λv e=>v= .bool (decide (s=b2))/\cf b e):=by
 have w:=c.len;have y:=k.len;have z:=c.fh;unfold aR at z;refine Bt (al.eK (λl=>?_) (λl=>?_))
 ·have f:s≠b2:=by rintro rfl;simp[w,y]at l
  exact Ok.mk ⟨by simp[f],cf.refl b⟩
 ·refine⟨λm i e=>∃n:Nat,i=n/\n<=a/\m=a-n/\s.take n=b2.take n/\cf b e,⟨_,0,rfl,Qj _,rfl,rfl,cf.refl b⟩,?_⟩
  rintro m i _ L ⟨n,rfl,M,rfl,o,P⟩;refine al.dec (λA=>?_) (λA=>?_)
  ·obtain⟨B,C,N,rfl,p,_,E⟩:=(c.af P.keep).nE (i:=n) oM
   obtain⟨F,H,O,rfl,g,_,I⟩:=(k.af P.keep).nE (i:=n) oM;refine⟨B,C,rfl,oM,oM,_,E,F,H,rfl,oM,oM,_,I,λQ q=>?_⟩;refine al.eK (λh=>?_) (λh=>?_)
   ·have f:s≠b2:=by rintro rfl;rw[p]at g;cases g;exact h rfl
    exact Ok.mk ⟨by simp[f],P.then q⟩
   ·subst h
    exact⟨_,oM,n+1,aq oM,oM,rfl,Pq o p g,P.then q⟩
  ·have:s=b2:=by
    have J:s.take n=s:=Qz oM;have K:b2.take n=b2:=Qz oM;rw[<-J,<-K,o]
   exact Ok.mk ⟨by simp[this],P⟩
end Go.Proofs.YtjgjkeponbeekaaGreatDoor
namespace Go.aw
open Go.ChangeShapes Go.WideShapes Go.ChangeAt Go.RowKit
def mT{n:Type}(P:Program)(a:TypeId)(b:DataW n):Prop:=∀c∈b.weights P a,c<=reachBytes
abbrev In(n:World):UK:=λP=>P<n.heap.size
variable{e:Int}{a c:Nat}{j:Type}{g p:TypeId}{v:Value}
section
variable {H:Type} {enc:TypeId×Value->H} {P:Program} {w:World} {base:Nat} {held:Bool}
def RI{n:List TypeId}{a:List (DataW H)}(c:(DataW.weightsEach P n a).all (·<=reachBytes)=true){j:Nat}{b:DataW H}(d:n[j]? =some g)(e:a[j]? =some b):mT P g b:=
 λf h=>by simpa using ZY.1 c _ (DataW.weights_mem_each d e f h)
def rF{b:TypeId}:∀{n:List (DataW H)} {d:DataW H},d∈n->∀a∈d.weights P b,a∈DataW.weightsAll P b n
 |x::n,d,h,a,c=>by
  simp only[DataW.weightsAll,Q6];rcases Q2.1 h with rfl|h
  ·exact Or.inl c
  ·exact Or.inr (rF h a c)
def Reads{c:Type}(P:Program)(d:ky c)(a:TypeId):Prop:=
 ∀(H:Type) (enc:TypeId×Value->H) (w:World) (held:Bool) (n:Nat) (cs:List Value) (b:DataW H×List MemPlace),DataW.trod enc P w 0 (λ_=>true) held n a cs=some b->mT P a b.1->∃e,d.rep w (In w) e cs
def lS{P:Option _}(n:w.cell? ⟨a,c,P⟩=some v):a<w.heap.size:=by
 unfold World.cell? at n
 by_cases b:a<w.heap.size
 ·exact b
 ·rw[show w.heap[a]? =none by simp;omega]at n;cases n
def open_row{i:ky j}{bytes v:Nat}{cs:List Value}{B:DataW H×List MemPlace}(I:P.underlying g=some (.slice p))(Q:P.cellsOf p=i.k)(J:0<i.k)(R:P.bytesOf p=bytes)(S:Reads P i p)(o:DataW.trod enc P w 0 (λ_=>true) held v g cs=some B)(T:mT P g B.1):
  ∃a q e U,cs=[.slice a q e]/\q<=e/\(a=none->q=0/\e=0)/\Row i bytes w (In w) a q U:=by
 rcases DataW.trod_slice I o with⟨rfl,rfl⟩|⟨a,b,e,n,f,q,_,rfl,rfl,hb,V,hm,a4,W,a5,a6⟩
 ·exact⟨none,0,0,[],rfl,Q4 _,λ_=>⟨rfl,rfl⟩,Row.nil _ _⟩
 ·have x:∀k∈(n.length+f.length)*P.bytesOf p::(DataW.weightsAll P p (n.map (·.1))++DataW.weightsAll P p (f.map (·.1))),k<=reachBytes:=by
   have:=T;simpa only[mT,DataW.weights,I,Q8]using this
  have read:∀d,d<b->∃c k,n[d]? =some k/\c.length=i.k/\(∀h,h<i.k->w.cell? (a.add (d*i.k+h))=c[h]?)/\DataW.trod enc P w 0 (λ_=>true) held q p c=some k:=by
   intro d m;have K:=W d m;rw[Q,Qq (by omega:d<n.length)]at K;obtain⟨c,A,y⟩:=Option.bind_eq_some_iff.1 K;obtain⟨_,C,s⟩:=World.cells?_some A;exact⟨c,_,Qq oM,C,λh E=>by rw[<-Addr.add_add];exact s h E,y⟩
  have X:0<b->a.spot=none:=by
   intro Y;obtain⟨c,k,_,C,s,_⟩:=read 0 Y;have:=s 0 J;rw[Nat.zero_mul,Nat.add_zero,Qq oM]at this;have p:a.add 0=a:=by simp[Addr.add]
   rw[p]at this;unfold World.cell? at this;split at this
   ·cases t:a.spot with
    |none=>rfl
    |some L=>rw[t]at this;simp at this
   ·cases this
  have one:∀d,d<b->∃r,∃u z M,some a=some ⟨u,z,none⟩/\u<w.heap.size/\In w u/\(∀h,h<i.k->w.cell? ⟨u,z+d*i.k+h,none⟩=M[h]?)/\i.rep w (In w) r M:=by
   intro d m;have t:=X oM;have N:∀F,a.add F=⟨a.block,a.off+F,none⟩:=by
    intro F;obtain⟨u,Z,L⟩:=a;simp only at t;subst t;unfold Addr.add;split
    ·next o=>subst o;rfl
    ·rfl
   obtain⟨c,k,y,C,s,h5⟩:=read d m;have a0:mT P p k.1:=λr l=>x r (QJ _ (ZV _ (rF (d:=k.1) (Xk.2 ⟨k,QZ y,rfl⟩) r l)));obtain⟨r,l⟩:=S H enc w held q c k h5 a0;have O:a.block<w.heap.size:=by
    have:=s 0 J;rw[N,Qq oM]at this;exact lS this
   refine⟨r,a.block,a.off,c,?_,O,O,λh E=>?_,l⟩
   ·obtain⟨u,Z,L⟩:=a
    simp only at t;rw[t]
   ·have:=s h E
    rw[N]at this;rw[<-this,Nat.add_assoc]
  have a1:b*bytes<=aR:=by
   have A:=x _ (QV ..);have y:b*P.bytesOf p<=(n.length+f.length)*P.bytesOf p:=Q0 _ oM;rw[R]at A y;unfold reachBytes at A;unfold aR;omega
  by_cases l:b=0
  ·subst l
   exact⟨some a,0,e,[],rfl,Qj _,λo=>(by cases o),rfl,sM,λd B m=>(by simp at m)⟩
  ·have a2:Nonempty j:=⟨(one 0 oM).choose⟩
   haveI:Inhabited j:=⟨Classical.choice a2⟩
   obtain⟨a3,hf⟩:=Go.Deep.choose_lt one;refine⟨some a,b,e,(List.range b).map a3,rfl,V,λo=>(by cases o),sM,a1,λd r l=>?_⟩
   by_cases m:d<b
   ·rw[Q9,List.getElem?_range m]at l
    cases l
    exact hf d m
   ·rw[Q7 cS]at l;cases l
def br(n:(Lit.int .i64 e).wf=true):aM e:=by
 have:IntKind.i64.min<=e/\e<=IntKind.i64.max:=by simpa[Lit.wf]using n
 exact this
end
variable{m:Array Value}{a7:Func}{g0:List MemPlace}{b k:World}
def ai.below(n:ai b k):Below b.heap.size b k:=⟨n.os,n.tape,n.output,n.size,λP a=>n.block P a id⟩
section
variable {H:Type} {enc:TypeId×Value->H} {P:Program}
def wq(i:laidOutB P=true){e j:World}(k:ai e j){l:Nat->Bool}:∀{b:List TypeId} {m:List Value} {o:List (DataW H)} {c:List MemPlace},b.all (λf=>P.readableRec f&&decide (f<P.types.size))=true->(∀n∈c,n.block<e.heap.size)->(∀n∈c,l n.block=true)->
  DataW.TrodAll enc P e 0 (λ_=>true) true b m o c->DataW.TrodAll enc P j 0 l true b m o c
 |[],_,_,_,_,_,_,a=>by
  obtain⟨rfl,rfl,rfl⟩:=trodAll_nil a;exact trodAll_mk0
 |f::b,_,_,_,d,p,q,a=>by
  obtain⟨t,u,v,w,x,y,rfl,rfl,rfl,r,s⟩:=trodAll_cons a;simp only[List.all_cons,QK,Zk]at d;refine trodAll_cons_mk (WideElems.Trod_stays i d.1.1 d.1.2 r (λg h=>k.below.same (p g (ZV _ h))) λg h=>q g (ZV _ h)) (wq i k (by simpa using d.2) (λn a=>p n (ZW _ a)) (λn a=>q n (ZW _ a)) s)
def OM{c:ChangeSpec}{e o:List (DataW H)}{tb:TypeId}{n h E i:Bool}(F:laidOutB P=true)(u:a7.resultTypes= #[tb])(v:P.underlying tb=some .bool)(w:c.vars=[])(I:(c.fn H (e++o)).results=[.lit (.bool true)])(J:(c.fn H (e++o)).args=e)(K:(c.fn H (e++o)).vars=[])(L:a7.params.toList.all (λx=>P.readableRec x&&decide (x<P.types.size))=true)(p:DataW.Whole enc P a7.params.toList c.vars n b m.toList e o g0)(q:ai b k):c.post enc P a7 n h E i b m (.bool true) k:=by
 have M:=p;have r:=λa d=>p.lt a d;obtain⟨a,V,N,y,O,Q,R⟩:=p;rw[w]at y;obtain⟨rfl,rfl⟩:=trodVars_none y;obtain rfl:g0=a:=by simpa using O
 have z:∀f:Nat->Bool,(∀a∈g0,f a.block=true)->DataW.TrodAll enc P k 0 f true a7.params.toList m.toList (c.fn H (e++[])).args g0:=λf S=>by
  rw[J];exact wq F q L (λs t=>by simpa using r s t) (λs t=>S s t) N
 have A:∀(g:Nat) (f:Nat->Bool) (B:Bool),DataW.TrodAll enc P k g f B a7.resultTypes.toList ((Value.bool true).resultList a7.resultTypes.size) (c.fn H (e++[])).results []:=λg f B=>by
  rw[u,I];exact trodAll_cons_mk (shut_bool v _) trodAll_mk0
 have C:∀f:Nat->Bool,DataW.TrodVars enc P k f c.vars (c.fn H (e++[])).vars []:=λf=>by rw[K,w];exact rfl
 have T:∀a∈g0,(λg=>decide (g<b.heap.size)) a.block=true:=λa d=>by simpa using r a d
 refine⟨e,[],g0,[],g0,[],M,A _ _ _,z _ T,C _,World.keptBut_mono (λa d=>⟨d,Or.inr (by simpa using d)⟩) (q.below.frame (·∈g0)),λ_=>?_⟩;refine⟨ok_one u rfl (okWide_bool_mk v _),_,_,([]++g0)++[],⟨[]++g0,[],trodAll_append (z _ (λ_ _=>rfl)) (A _ _ _),C _,rfl,?_,?_⟩,?_⟩
 ·intro g j d
  have l:MemPlace.cell g j∈g0:=by simpa using d
  rw[q.below.frozen (p:=⟨g,j,none⟩) (r _ l)];exact Q g j (by simpa using l)
 ·intro U
  simpa using R U
 ·intro a d _
  simpa using d
end
end Go.aw
namespace Go.Proofs.YtjgjkeponbeekaaGreatDoor
open Go.aw
def aY(a P:World)(d:Nat)(D:ak)(b:UK):Prop:=∃c,aV P d c D/\ai a P/\(∀n,c n->a.heap.size<=n/\¬b n)/\∀n,b n->n<P.heap.size
abbrev no:UK:=λ_=>False
abbrev dW(n:UK):UK:=λP=>¬n P
variable{m:Array Value}{z:FuncId}{e:Int}{d2:Int×ak}{u:List UInt8}{a c:Nat}{f:UK}{d:bc}
section
variable {w0 w w1 w':World} {p:Nat} {D D':ak} {X Y:UK}
def aY.gr(n:aY w0 w p D X):ai w0 w:=by obtain⟨a,b,P,c,d⟩:=n;exact P
def aY.ok(n:aY w0 w p D X):D.Ok:=by obtain⟨a,P,b,c,d⟩:=n;exact P.ok
def aY.af(P:aY w0 w p D X)(n:ai w w'):aY w0 w' p D X:=by
 obtain⟨a,b,c,d,e⟩:=P;exact⟨a,b.af n,c.af n,d,λf g=>Qk (e f g) n.size⟩
def aY.mono(c:aY w0 w p D X)(a:∀n,Y n->X n):aY w0 w p D Y:=by
 obtain⟨d,e,f,b,g⟩:=c;exact⟨d,e,f,λn P=>⟨(b n P).1,λh=>(b n P).2 (a n h)⟩,λn P=>g n (a n P)⟩
def aY.add(P:aY w0 w p D X)(b:ai w w')(c:∀n,Y n->w.heap.size<=n/\n<w'.heap.size):aY w0 w' p D (λn=>X n\/Y n):=by
 obtain⟨f,d,g,e,h⟩:=P;exact⟨f,d.af b,g.af b,λn a=>⟨(e n a).1,λi=>i.elim (e n a).2 λj=>by have:=d.aF n a;have:=(c n j).1;omega⟩,λn a=>a.elim (λP=>Qk (h n P) b.size) λP=>(c n P).2⟩
def aY.of(a:ai w0 w)(b:ai w w')(e:aV w' p f D)(c:∀n,f n->w.heap.size<=n)(d:∀n,X n->n<w.heap.size):aY w0 w' p D X:=
 ⟨f,e,a.af b,λn P=>⟨Xx a.size (c n P),λg=>by have:=c n P;have:=d n g;omega⟩,λn P=>Qk (d n P) b.size⟩
def oq(w0 w:World)(p:Nat)(X:UK)(n:Int×ak)(P:Value)(w':World):Prop:=P= WP n.1/\aY w0 w' p n.2 X/\aj (dW X) w w'
def aY.XS(e:aY w0 w p D X)(d:ai w w1)(i:∀a,aV w1 p a D->(∀n,a n->w0.heap.size<=n/\n<w.heap.size/\¬X n)->be z m w1 (Ok (vY w1 p a d2))):be z m w1 (Ok (oq w0 w1 p X d2)):=by
 obtain⟨a,f,g,b,h⟩:=e;refine Calls.ok (i a (f.af d) λn P=>⟨(b n P).1,f.aF n P,(b n P).2⟩) ?_;rintro q w' ⟨j,k,l,c⟩;have:=d.size;have:=g.size;have:=c.keep.size;exact⟨k,⟨j,l,(g.af d).new c.keep λn P=>.inr (b n P).1,λn P=>(c.new n P).elim (b n) λe=>⟨oM,λo=>by have:=h n o;omega⟩,λn P=>by have:=h n P;omega⟩,c.keep.mono λn _ P=>(b n P).2⟩
def aY.call(a:aY w0 w p D X)(b:∀P,aV w p P D->(∀n,P n->w0.heap.size<=n/\n<w.heap.size/\¬X n)->be z m w (Ok (vY w p P d2))):be z m w (Ok (oq w0 w p X d2)):=a.XS (aj.refl w) b
def aY.append{e:ByteArray}(P:aY w0 w p D X)(b:Row gw 1 w f d a u)(j:d=none->a=0/\c=0)(g:∀n,f n->n<w0.heap.size\/X n):
  be 178 #[RK p,.string e,.slice d a c] w (Ok (oq w0 w p X (D.append e u))):=by
 have q:=P.gr.size;have k:∀n,X n->n<w.heap.size:=by obtain⟨l,r,s,t,m⟩:=P;exact m
 exact P.call λl o h=>yH o b j λn b=>⟨(g n b).elim (λP=>oM) (k n),λi=>(g n b).elim (λP=>by have:=(h n i).1;omega) (h n i).2.2⟩
def aY.create{n:ByteArray}(P:aY w0 w p D X):be 170 #[RK p,.string n] w (Ok (oq w0 w p X (D.create n))):=P.call λb a _=>yG a
def aY.sync{n:ByteArray}(P:aY w0 w p D X):be 172 #[RK p,.string n] w (Ok (oq w0 w p X (D.sync n))):=P.call λb a _=>EJ a
def aY.ou{k:ByteArray}(n:aY w0 w p D X):be 169 #[RK p,.string k,WP e] w (Ok (oq w0 w p X (D.ou k e))):=n.call λa P _=>RV P
def aY.delete{n:ByteArray}(P:aY w0 w p D X):be 141 #[RK p,.string n] w (Ok (oq w0 w p X (D.delete n))):=P.call λb a _=>yF a
def aY.read{k:ByteArray}(j:aY w0 w p D X):be 162 #[RK p,.string k] w (Ok λd w'=>∃a b c P,d= .tuple #[.slice a b c,WP (D.read k).2]/\aU gw 5 P w' a b c (D.read k).1/\(∀n,P n->w.heap.size<=n)/\aY w0 w' p D (λn=>X n\/P n)/\ai w w'):=by
 obtain⟨P,e,l⟩:=j;refine Calls.ok (xU e) ?_;rintro d w' ⟨m,rfl,a,b,c,G,rfl,f,g,h⟩;exact⟨a,b,c,G,rfl,f,h,aY.add ⟨P,e,l⟩ g λn i=>⟨h n i,f.aF n i⟩,g⟩
def aY.list(j:aY w0 w p D X):be 160 #[RK p] w (Ok λd w'=>∃a b c P,d= .slice a b c/\aU Pb 9 P w' a b c D.list/\(∀n,P n->w.heap.size<=n)/\aY w0 w' p D (λn=>X n\/P n)/\ai w w'):=by
 obtain⟨P,e,k⟩:=j;refine Calls.ok (xV e) ?_;rintro d w' ⟨a,b,c,G,rfl,f,g,h⟩;exact⟨a,b,c,G,rfl,f,h,aY.add ⟨P,e,k⟩ g λn i=>⟨h n i,f.aF n i⟩,g⟩
end
def gW(n:Nat):ak:=⟨n,[],false,0,false⟩
variable{A:am}{s:List Int}{b k:World}
def tT(g:ai b k)(l:64<=e)(m:e<=262144):be 42 #[WP e] k (Ok λa P=>∃n,a= .tuple #[RK n,WP 0]/\aY b P n (gW e.toNat) (λc=>c<k.heap.size)/\ai k P):=by
 refine Calls.ok Pc ?_;intro a P d;rw[Zq oM]at d;obtain⟨n,o,rfl,h,f,i⟩:=d;exact⟨n,rfl,aY.of g f h i λc j=>j,f⟩
def Jt{D:ak}(n:D.Ok)(P:ByteArray):(D.read P).1.length<=262144:=by
 unfold ak.read;split
 ·simp
 ·split
  ·simp
  ·rename_i b a;exact n.len (cy a)
def nA:ByteArray:=⟨#[97]⟩
open Go.aw Go.ChangeShapes Go.WideShapes Go.ChangeAt Go.RowKit
section
variable {w0 w w1 w':World} {p:Nat} {D D':ak} {X Y:UK}
def aY.bw(P:aY w0 w p D X)(g:qT w0)(j:Row aP 8 w f d a s)(k:∀l∈s,aM l)(h:∀n,f n->n<w0.heap.size\/X n):
  be 112 #[RK p,.agg #[.slice d a c]] w (Ok (oq w0 w p X (bw D s))):=by
 have t:=P.gr.size;have m:∀n,X n->n<w.heap.size:=by obtain⟨o,u,v,x,q⟩:=P;exact q
 have y:=g.lt;exact P.call λo r e=>CA (g.af P.gr) r j k (λn b=>⟨(h n b).elim (λP=>oM) (m n),λi=>(h n b).elim (λP=>by have:=(e n i).1;omega) (e n i).2.2⟩) λn b=>by have:=(e n b).1;omega
def aY.iY(c:aY w0 w p D X)(j:qT w0):be 109 #[RK p] w (Ok λd w'=>∃P a b G,d= .tuple #[.agg #[.slice P a b],.bool (dF D).isSome]/\aU aP 3 G w' P a b ((dF D).getD [])/\
  (∀n,G n->w.heap.size<=n)/\aY w0 w' p D (λn=>X n\/G n)/\ai w w'):=by
 have k:=c.gr;obtain⟨l,e,m⟩:=c;refine Calls.ok (Eb (j.af k) e) ?_;rintro d w' ⟨P,a,b,G,rfl,f,g,h⟩;exact⟨P,a,b,G,rfl,f,h,aY.add ⟨l,e,m⟩ g λn i=>⟨h n i,f.aF n i⟩,g⟩
end
def NQ{D:UK}{P bytes:Nat}(a:Row aP bytes b D d P s):∀n∈s,aM n:=λn c=>by
 obtain⟨e,f⟩:=List.mem_iff_getElem?.1 c;obtain⟨i,g,j,-,-,-,-,h⟩:=a.el e n f;exact h.2
def EA{D:ak}:((dF D).getD []).length<=64:=by
 unfold dF;split
 ·simp
 ·cases n:iY (D.read bZ).1 with
  |none=>simp
  |some P=>exact(PH n).2
def tn:(aO==bZ)=false:=by decide+kernel
def Uj:cU aO=true:=by decide+kernel
def Jd:cU bZ=true:=by decide+kernel
def Ad:lA:=⟨[(6,[(8,.slice none 0 0),(9,WP 0)])],[],[],[],[]⟩
def Ae(a0:PC_ 146 #[.ii e] b (λa3 a4=>∃o,a3= .string o/\PC_ 162 #[.pointer d,.string o] a4 (λa5 p=>∃q k l r,a5= .tuple #[.slice q k l,.ii r]/\al (r !=0) (rt A ((.tuple #[.slice none 0 0,.ii 0])) p) ((∃m:Nat->bc->Nat->Nat->Int->ba,(∃j,m j none 0 0 0 p)/\∀(j:Nat) (c:bc) (f:Nat) (g:Nat) (a:Int) (c9:Nat->Value) (s:World),m j c f g a s->((0:Int)<=a/\(a:Int)<=(k:Int)/\PC_ 163 #[.slice (dh q (Int.toNat a) l 1) (k-Int.toNat a) (l-Int.toNat a)] s (λa6 h=>∃t u v w x y,a6= .tuple #[.agg #[.ii t,.slice u v w],.ii x,.ii y]/\PA h (.cells #[.ii 0,.slice none 0 0] 277) λa7=>PS a7 (ab_ h 0) (.ii t) λa8=>PS a8 (ab_ h (0+1)) (.slice u v w) λi=>al (y !=0) (rt A ((.tuple #[.slice c f g,.ii a])) i) ((rI i (ab_ h 0) λa9=>al (a9 !=1) (rt A ((.tuple #[.slice c f g,.ii a])) i) ((rS i (ab_ h (0+1)) λb0 b1 b2=>PC_ 231 #[.slice b0 b1 b2] i (λb3 n=>∃z B D C E G F H I J K L M,b3= .tuple #[.agg #[.ii z,.ii B,.ii D,.slice C E G,.ii F,.ii H,.ii I,.ii J,.ii K,.ii L],.ii M]/\PA n (.cells #[.ii 0,.ii 0,.ii 0,.slice none 0 0,.ii 0,.ii 0,.ii 0,.ii 0,.ii 0,.ii 0] 63) λb4=>PS b4 (ab_ n 0) (.ii z) λb5=>PS b5 (ab_ n (0+1)) (.ii B) λb6=>PS b6 (ab_ n (0+2)) (.ii D) λb7=>PS b7 (ab_ n (0+3)) (.slice C E G) λb8=>PS b8 (ab_ n (0+4)) (.ii F) λb9=>PS b9 (ab_ n (0+5)) (.ii H) λc0=>PS c0 (ab_ n (0+6)) (.ii I) λc1=>PS c1 (ab_ n (0+7)) (.ii J) λc2=>PS c2 (ab_ n (0+8)) (.ii K) λc3=>PS c3 (ab_ n (0+9)) (.ii L) λP=>al (M !=0) (rt A ((.tuple #[.slice c f g,.ii a])) P) ((∃N O Q R S T U V W X Y Z,P.cell? (ab_ n 0)=some (.ii N)/\P.cell? (ab_ n (0+1))=some (.ii O)/\P.cell? (ab_ n (0+2))=some (.ii Q)/\P.cell? (ab_ n (0+3))=some (.slice R S T)/\P.cell? (ab_ n (0+4))=some (.ii U)/\P.cell? (ab_ n (0+5))=some (.ii V)/\P.cell? (ab_ n (0+6))=some (.ii W)/\P.cell? (ab_ n (0+7))=some (.ii X)/\P.cell? (ab_ n (0+8))=some (.ii Y)/\P.cell? (ab_ n (0+9))=some (.ii Z)/\PA P (.cells #[.ii N,.ii O,.ii Q,.slice R S T,.ii U,.ii V,.ii W,.ii X,.ii Y,.ii Z] 63) λc4=>PR_ (ap_ 59 (.slice c f g) (.slice (some (ab_ P 0)) 1 1)) c4 (kS_ λc5 c6 c7 c8=>(∃a2,a2<j/\m a2 c5 c6 c7 (PP .i64 (a+x)) c8)) (pV A)))) (pE A)))))) (pE A))))) (pE A)) (pE A)):be 168 #[.pointer d,.ii e] b A:=DC Ad Tryz.func168 rfl a0
end Go.Proofs.YtjgjkeponbeekaaGreatDoor
namespace Go.aw
open Go
variable{F:List ah}{l:ah}
def rp(n:l.Ok)(P:l.aN.length<=64):gZ l=(om l,0):=by
 have c:=Fj n P;have a:jA l=(bk (f_ l),0):=by unfold jA;rw[Zq oM]
 have b:k_ 1 (bk (f_ l))=(om l,0):=by unfold k_ om;rw[Zq dC,Zq oM]
 unfold gZ;rw[a];simp only;rw[b];simp
def yz(P:¬l.aN.length<=64):gZ l=([],3):=by
 have n:jA l=([],3):=by unfold jA;rw[Zx oM]
 unfold gZ;rw[n];simp
def ends(n:List ah):List Int:=(List.range n.length).map λP=>((az (n.take (P+1))).length:Int)
def Cv{l:List ah}{i j:Nat}(n:i<=j):(az (l.take i)).length<=(az (l.take j)).length:=by
 have:l.take j=l.take i++(l.take j).drop i:=by
  conv=>lhs;rw[<-ZX i (l.take j)]
  rw[List.take_take,X2 n]
 rw[this,gB,QX];omega
def IZ(P:∀n∈F,n.Ok/\n.aN.length<=64):(az F).length<=675*F.length:=by
 induction F with
 |nil=>simp[az]
 |cons n F a=>
  rw[iz,QX,Xq];have d:=Kp (P n (QV ..)).1 (P n (QV ..)).2;have e:=a λb c=>P b (QJ _ c);omega
end Go.aw
namespace Go.Proofs.YtjgjkeponbeekaaGreatDoor
open Go.aw
variable{e:Int}
def JG(b:0<=e)(c:e<1000000000000):cU (⟨(ax e).toArray⟩:ByteArray)=true:=by
 have d:=CS e;have f:=uY e.toNat;have a:=mX b c;have g:(⟨(ax e).toArray⟩:ByteArray).size=(ax e).length:=by simp[ByteArray.size]
 unfold cU;rw[g,QK,QK,Zk,Zk];refine⟨⟨by rw[a,QX];show 1<=4+_;omega,d⟩,?_⟩;show(ax e).all eL=true;rw[a,List.all_append,QK];refine⟨dC,ZY.2 λn P=>?_⟩;have:=ZY.1 f.2.1 n P;have h:∀n:UInt8,gY n=true->eL n=true:=by
  intro n;have i:(List.range 256).all (λe=>!(gY (UInt8.ofNat e))||eL (UInt8.ofNat e))=true:=by decide+kernel
  have:=ZY.1 i n.toNat (List.mem_range.2 n.toNat_lt);rw[UInt8.ofNat_toNat]at this;intro j;rw[j]at this;simpa using this
 exact h n this
end Go.Proofs.YtjgjkeponbeekaaGreatDoor
namespace Go.aw
open Go
end Go.aw
namespace Go.Proofs.YtjgjkeponbeekaaGreatDoor
section
open Go.aw
variable{a c:Nat}{f:UK}{d:bc}{j:Type}{b:World}{l:ah}
def EC{D:UK}(r:Laid b)(s:Row aP 8 b D d a l.aN)(i:l.Ok)(t:∀P,D P->P<b.heap.size):
  be 205 #[.agg (aI l d a c).toArray] b (Ok λu j=>∃k m o p,u= .tuple #[.slice k m o,WP (gZ l).2]/\aU gw 5 p j k m o (gZ l).1/\ai b j/\∀P,p P->b.heap.size<=P):=by
 refine zV (PA.mk λC e E n=>?_);refine⟨_,_,_,_,_,_,_,_,_,_,_,_,ae n rfl,ae n rfl,ae n rfl,ae n rfl,ae n rfl,ae n rfl,ae n rfl,ae n rfl,ae n rfl,ae n rfl,
  PC.ok (Pf (s.af e) i λP h=>Qk (t P h) e.size) ?_⟩
 rintro _ v ⟨_,rfl,F,H,I,J,rfl,q,f,K⟩;refine⟨_,_,_,_,rfl,al.eK (λw=>?_) (λx=>?_)⟩
 ·rw[show gZ l=([],(jA l).2) by unfold gZ;rw[Zx w]]
  exact Ok.mk ⟨none,0,0,λ_=>False,rfl,aU.nil v,e.then f,λ_ g=>g.elim⟩
 rw[show gZ l=k_ 1 (jA l).1 by unfold gZ;rw[Zq (by simpa using x)]];have L:(jA l).1.length<=666:=by
  by_cases g:64<l.aN.length
  ·simp[jA,g]
  ·have:=Fj i oM
   simpa[jA,g]using this
 refine PC.ok (ER (r.af (e.then f)).qg (q.row (bytes:=1) dC ce) q.aF) ?_;rintro _ M ⟨_,rfl,N,O,Q,y,rfl,z,A,B⟩;refine⟨_,_,_,_,rfl,Ok.mk ⟨_,_,_,y,rfl,z,(e.then f).then A,λP h=>?_⟩⟩;have:=B P h;have:=(e.then f).size;omega
def Te{n:List j}(b:n.length=a)(P:Nat):(n.take a).drop P=n.drop P:=by rw[Qz oM]
def SF{D:ak}{no:Int}(O:Laid b)(Q:aV b a f D)(hn:aM no):
  be 168 #[RK a,WP no] b (Ok λB d=>∃o p q G,B= .tuple #[.slice o p q,WP ((bE (D.read (cH (ax no))).1).2:Int)]/\
   aU wh 63 G d o p q (bE (D.read (cH (ax no))).1).1/\ai b d/\(∀P,G P->b.heap.size<=P)/\(bE (D.read (cH (ax no))).1).1.length<=262144):=by
 refine Ae (PC.ok (km O hn) ?_);rintro _ w1 ⟨rfl,u⟩;refine⟨_,rfl,PC.ok (xU (Q.af u)) ?_⟩;rintro _ r ⟨_,rfl,a4,R,c2,F2,rfl,l,C,c3⟩;have S:=Jt Q.ok (cH (ax no));have E:(D.read (cH (ax no))).2≠0->(D.read (cH (ax no))).1=[]:=by
  unfold ak.read;split
  ·intro _;rfl
  ·split
   ·intro _;rfl
   ·intro h;exact Zz rfl h
 generalize D.read (cH (ax no))=rd at l S E;obtain⟨c,er⟩:=rd;simp only at l S E⊢;refine⟨_,_,_,_,rfl,al.eK (λk=>?_) (λhe=>?_)⟩
 ·rw[E k,rY]
  exact Ok.mk ⟨none,0,0,λ_=>False,rfl,aU.nil r,u.then C,λ_ h=>h.elim,sM⟩
 have b2:=l.len dC;have b3:=l.lE;have a9:Row gw 1 r F2 a4 R c:=l.row dC ce;refine⟨λT v w y F d=>∃(n:Nat) (g:List ah) (G:UK),F=n/\n<=c.length/\T=c.length-n/\bE c=(g++(bE (c.drop n)).1,n+(bE (c.drop n)).2)/\g.length<=n/\
  aU wh 63 G d v w y g/\ai r d/\∀P,G P->r.heap.size<=P,⟨_,0,[],λ_=>False,rfl,Qj _,rfl,sM,sM,aU.nil r,aj.refl _,λ_ h=>h.elim⟩,?_⟩
 rintro T v w y _ _ U ⟨n,g,G,rfl,c5,rfl,V,c6,s,m,H⟩;refine⟨oM,oM,?_⟩;have W:ai b U:=(u.then C).then m;have X:=(a9.af m).part (lo:=n) (hi:=R) (cap:=c2) oM (Q4 _) b3;rw[Te b2.symm]at X;rw[Qx];refine PC.ok (ES (O.af W).qg X oM λP e=>by have:=l.aF P e;have:=m.size;omega) ?_;rintro _ I ⟨b0,n4,c4,F4,rfl,b4,z,c8⟩;have i:¬((bt (c.drop n)).no=0/\(bt (c.drop n)).kind=1/\(jf (bt (c.drop n)).body).2=0)->∀d,ai I d->
   Ok (λB d=>∃o p q G,B= .tuple #[.slice o p q,WP ((bE c).2:Int)]/\aU wh 63 G d o p q (bE c).1/\ai b d/\(∀P,G P->b.heap.size<=P)/\(bE c).1.length<=262144) (.returned (.tuple #[.slice v w y,WP (n:Int)])) d:=by
  intro h d Y;rw[V,CR h];refine Ok.mk ⟨v,w,y,G,sM,by simpa using(s.af z).af Y,(W.then z).then Y,λP e=>?_,by simp;omega⟩;have:=H P e;have:=(u.then C).size;omega
 refine⟨_,_,_,_,_,_,rfl,PA.mk λw5 k5 s5 g5=>?_⟩;refine storeAll [WP (bt (c.drop n)).kind,.slice b0 n4 c4] g5 rfl λJ k6 s6 Z=>?_;have t:ai I J:=k5.new k6 λP e=>.inr oM;refine al.eK (λk=>i (λh=>k h.1) J t) (λa0=>?_);refine⟨_,ae Z rfl,al.eK (λk=>i (λh=>k h.2.1) J t) (λb1=>?_)⟩;obtain⟨b5,h9,c9⟩:=wo a0;rw[XZ]at b5;have a1:=b4.af t;refine⟨_,_,_,ae Z rfl,PC.ok (Pg (a1.row (bytes:=1) dC ce) a1.aF) ?_⟩;rintro _ w7 ⟨a7,n7,c7,F7,rfl,K,k7,a3⟩;obtain⟨L,a5⟩:=Tf (bt (c.drop n)).body;generalize M:jf (bt (c.drop n)).body=b6 at K L a5;obtain⟨x,xe⟩:=b6;simp only at K L a5;refine⟨_,_,_,_,_,_,_,_,_,_,_,_,_,rfl,PA.mk λw8 k8 s8 g8=>?_⟩;refine storeAll (aI x a7 n7 c7) g8 rfl λA k9 s9 j=>?_;have a6:ai w7 A:=k8.new k9 λP e=>.inr oM;have a8:ai I A:=(t.then k7).then a6;refine al.eK (λk=>i (λh=>k (by have:=h.2.2;rw[M]at this;exact this)) A a8) (λb7=>?_);refine⟨_,_,_,_,_,_,_,_,_,_,_,_,ae j rfl,ae j rfl,ae j rfl,ae j rfl,ae j rfl,ae j rfl,ae j rfl,ae j rfl,ae j rfl,ae j rfl,?_⟩;have N:ai U A:=z.then a8;have b8:=s.af N;have a2:=K.af a6;have d0:=(z.then t).size;refine KK b8 KF (x:=x) (D:=F7) ⟨a7,n7,c7,F7,rfl,a2,λ_ h=>h,L,by unfold aR;omega⟩ (λP e=>⟨a2.aF P e,λhc=>?_⟩) ce (by unfold maxLen;omega) λa' c' d1 F' b9 c0 c1 _=>?_
 ·have h1:=s.aF P (s.self P hc)
  have h2:=a3 P e;omega
 refine⟨_,_,_,rfl,_,?_,n+(bt (c.drop n)).n,g++[x],F',?_,oM,rfl,?_,by simp;omega,b9,?_,?_⟩
 ·omega
 ·rw[wrap_i64 cw];omega
 ·rw[V,y_ ⟨a0,b1,by rw[M];exact b7⟩,M,List.drop_drop]
  simp only[XQ,List.cons_append,List.nil_append,Nat.add_assoc]
 ·exact(m.then N).new c0 λP e=>.inr (H P (s.self P e))
 ·intro P e
  have hz:=(m.then N).size;have d2:=m.size;rcases c1 P e with h|h|h
  ·exact H P h
  ·have:=a3 P h;omega
  ·omega
end
section
open Go.aw
variable{m:Array Value}{z:FuncId}{e:Int}{d2:Int×ak}{s:List Int}{a c:Nat}{f:UK}{d:bc}{b:World}
def bS{D:UK}(h:Row aP 8 b D d a s)(f:∀n,D n->n<b.heap.size):
  be 92 #[.slice d a c] b (Ok (qH aP 3 b s)):=by
 have x:=h.len;have P:=h.fh;refine pf (lg vm.under ⟨_,rfl,al.mk (λe=>?_) (λe=>PA.mk λj g y k=>?_)⟩)
 ·have:s=[]:=by
   cases d with
   |none=>
    cases s with
    |nil=>rfl
    |cons l z=>obtain⟨n,m,A,o,_⟩:=h.el 0 l rfl;cases o
   |some p=>cases e
  subst this;exact Ok.mk ⟨none,0,0,λ_=>False,rfl,aU.nil b,aj.refl _,λ_ h=>h.elim⟩
 ·cases d with
  |none=>cases e
  |some p=>
   have q:aU aP 3 (·=b.heap.size) j (UV b.heap.size) 0 0 []:=
    ⟨⟨[],λ_=>False,Own.AQ (cur:= #[]) k rfl (Qj _),rfl,λ_ h=>h.elim⟩,λn P=>by simpa[aG]using P.symm,λn P=>oM⟩
   refine lQ q vm (D:=D) (h.af g) (λn P=>⟨by have:=f n P;omega,by have:=f n P;simp only[aG];intro r;cases r;omega⟩) cS (by unfold aR at P;unfold maxLen;simp;omega) λi t B C u v _ w=>?_;refine⟨_,_,_,rfl,Ok.mk ⟨i,_,t,λn=>aG i=some n,rfl,by have h:=u.alone;rw[List.nil_append]at h;exact h,g.new v λn P=>.inr ?_,λn P=>?_⟩⟩
   ·simp only[aG,Q1]at P;omega
   ·rcases w n P with h|h<;>omega
def eH(n:Int)(P:ByteArray):Int:=if(ig P).2 then max n ((ig P).1+1)else n
def tJ(n:List ByteArray):Int:=n.foldl eH 1
def iD(D:ak):Int:=tJ D.list
def Fh(n:ByteArray):0<=(ig n).1/\(ig n).1<1000000000000:=by
 unfold ig;split
 ·rename_i a P
  have:=(Ct P).2;simp;omega
 ·simp
def Hp(P:1<=e/\e<=1000000000000)(n:ByteArray):1<=eH e n/\eH e n<=1000000000000:=by
 have:=Fh n;unfold eH;split<;>omega
def JB:∀(P:List ByteArray) (n:Int),(1<=n/\n<=1000000000000)->1<=P.foldl eH n/\P.foldl eH n<=1000000000000
 |[],n,a=>a
 |s::P,n,a=>JB P _ (Hp a s)
def sA(n:List ByteArray):1<=tJ n/\tJ n<=1000000000000:=JB n 1 oM
def JC{D:ak}(s:Laid b)(h:aV b a f D):
  be 108 #[RK a] b (Ok λt d=>t= WP (iD D)/\ai b d):=by
 refine DJ (PC.ok (xV h) ?_);rintro _ i ⟨u,c,z,G,rfl,j,k,A⟩;have B:D.list.length<=64:=by rw[oW];exact h.ok.many
 have C:=j.len dC;have v:Row Pb 16 i G u c D.list:=j.row dC ce;refine⟨_,_,_,rfl,λl m o d=>∃n:Nat,o=n/\n<=c/\l=c-n/\m=tJ (D.list.take n)/\ai i d,⟨_,0,rfl,Qj _,rfl,rfl,aj.refl _⟩,?_⟩;rintro l m o _ E ⟨n,rfl,F,rfl,rfl,P⟩;refine al.dec (λH=>?_) (λI=>?_)
 ·obtain⟨w,e,p,rfl,x,_,y⟩:=(v.af P).nE (i:=n) oM
  refine⟨w,e,rfl,oM,oM,_,y,PC.ok (Bq (s.af (k.then P))) ?_⟩;rintro _ J ⟨rfl,q⟩;have K:=Fh p;have L:=sA (D.list.take n);have r:tJ (D.list.take (n+1))=eH (tJ (D.list.take n)) p:=by
   unfold tJ;rw[Qw,x,List.foldl_append];rfl
  refine⟨_,_,rfl,al.mk (λg=>⟨_,?_,n+1,aq oM,oM,rfl,?_,P.then q⟩) (λg=>⟨_,?_,n+1,aq oM,oM,rfl,?_,P.then q⟩)⟩
  ·omega
  ·rw[r,wrap_i64 cw]
   unfold eH;rw[Zx g];split<;>omega
  ·omega
  ·rw[r];unfold eH;rw[Zq (by simp[g])]
 ·obtain rfl:n=c:=oM
  rw[Qz oM];exact Ok.mk ⟨rfl,k.then P⟩
structure dw where
 size:Int
 a_:List Int
 bytes:Int
 next:Int
structure jy (w:World) (p q:Nat) (G:UK) (V:dw):Prop where
 body:∃a n c E,w.heap[q]? =some (.cells #[RK p,WP V.size,.slice a n c,WP V.bytes,WP V.next] 209 (0,0))/\aU aP 3 E w a n c V.a_/\∀b,E b->G b/\b≠q
 self:G q
 aF:∀b,G b->b<w.heap.size
 many:V.a_.length<=64
 BL:aM V.next
section
variable {w0 w w1 w':World} {p q:Nat} {D D':ak} {V V':dw} {X Y G S:UK}
def jy.keep(P:jy w p q G V)(a:aj S w w')(c:∀n,G n->¬S n):jy w' p q G V:=by
 obtain⟨e,f,g,h,i,j,d⟩:=P.body;exact⟨⟨e,f,g,h,a.get i (c q P.self),j.keep a λn b=>c n (d n b).1,d⟩,P.self,λn b=>Qk (P.aF n b) a.size,P.many,P.BL⟩
def jy.af(n:jy w p q G V)(P:ai w w'):jy w' p q G V:=n.keep P λ_ _ n=>n
def cI(w0 w:World)(p q:Nat)(V:dw)(D:ak)(X:UK):Prop:=∃G,aY w0 w p D (λn=>X n\/G n)/\jy w p q G V/\∀n,G n->w0.heap.size<=n/\¬X n
def cI.gr(n:cI w0 w p q V D X):ai w0 w:=by obtain⟨G,P,a,b⟩:=n;exact P.gr
def cI.ok(n:cI w0 w p q V D X):D.Ok:=by obtain⟨G,P,a,b⟩:=n;exact P.ok
def cI.many(n:cI w0 w p q V D X):V.a_.length<=64:=by obtain⟨G,a,P,b⟩:=n;exact P.many
def cI.BL(n:cI w0 w p q V D X):aM V.next:=by obtain⟨G,a,P,b⟩:=n;exact P.BL
def cI.aF(P:cI w0 w p q V D X):∀n,X n->n<w.heap.size:=by obtain⟨G,⟨c,d,e,f,a⟩,g,h⟩:=P;exact λn b=>a n (.inl b)
def cI.ZI(P:cI w0 w p q V D X):q<w.heap.size/\w0.heap.size<=q/\¬X q:=by obtain⟨G,b,n,a⟩:=P;exact⟨n.aF q n.self,a q n.self⟩
def cI.uO(n:cI w0 w p q V D X):aY w0 w p D X:=by obtain⟨G,P,b,c⟩:=n;exact P.mono λd a=>.inl a
def cI.af(P:cI w0 w p q V D X)(n:ai w w'):cI w0 w' p q V D X:=by
 obtain⟨G,a,b,c⟩:=P;exact⟨G,a.af n,b.af n,c⟩
def cI.mono(c:cI w0 w p q V D X)(a:∀n,Y n->X n):cI w0 w p q V D Y:=by
 obtain⟨G,d,e,b⟩:=c;exact⟨G,d.mono λn P=>P.imp (a n) id,e,λn P=>⟨(b n P).1,λf=>(b n P).2 (a n f)⟩⟩
def cI.add(e:cI w0 w p q V D X)(a:ai w w')(b:∀n,Y n->w.heap.size<=n/\n<w'.heap.size):cI w0 w' p q V D (λn=>X n\/Y n):=by
 obtain⟨G,f,c,d⟩:=e;refine⟨G,(f.add a b).mono λn P=>?_,c.af a,λn P=>⟨(d n P).1,λg=>g.elim (d n P).2 λh=>by have:=c.aF n P;have:=(b n h).1;omega⟩⟩;rcases P with(P|P)|P
 ·exact .inl (.inl P)
 ·exact .inr P
 ·exact .inl (.inr P)
def cI.other(f:cI w0 w p q V D X)(a:aj Y w w')(b:∀n,Y n->X n/\w0.heap.size<=n):cI w0 w' p q V D X:=by
 obtain⟨G,⟨g,h,i,d,j⟩,k,e⟩:=f;exact⟨G,⟨g,h.keep a λn P c=>(d n P).2 (.inl (b n c).1),i.new a λn P=>.inr (b n P).2,d,λn P=>Qk (j n P) a.size⟩,k.keep a λn P c=>(e n P).2 (b n c).1,e⟩
def cI.on(d:cI w0 w p q V D X)(e:∀a,(∀n,X n->a n)->aY w0 w p D a->be z m w (Ok (oq w0 w p a d2))):be z m w (Ok λb w'=>b= WP d2.1/\cI w0 w' p q V d2.2 X/\aj (dW X) w w'):=by
 obtain⟨G,f,g,h⟩:=d;refine Calls.ok (e _ (λn P=>.inl P) f) ?_;rintro b w' ⟨i,j,c⟩;exact⟨i,⟨G,j,g.keep c λn P k=>k (.inr P),h⟩,c.mono λn _ P l=>P (.inl l)⟩
def dw.last(V:dw):ByteArray:=cH (ax (V.a_.getLast?.getD 0))
def jy.row(d:jy w p q G V):∃P n b a,w.heap[q]? =some (.cells #[RK p,WP V.size,.slice P n b,WP V.bytes,WP V.next] 209 (0,0))/\Row aP 8 w a P n V.a_/\(∀c,a c->G c/\c≠q)/\n=V.a_.length:=by
 obtain⟨P,n,b,a,f,e,g⟩:=d.body;have:=d.many;exact⟨P,n,b,a,f,e.row dC ce,g,e.len dC⟩
def JD(d:Laid w)(b:jy w p q G V)(e:V.a_≠[]):be 206 #[RK q] w (Ok λf w'=>f= .string V.last/\ai w w'):=by
 obtain⟨u,P,v,x,g,h,y,i⟩:=b.row;have z:0<V.a_.length:=List.length_pos_iff.2 e;have A:=b.many;refine vH λw1 j=>?_;have n:ai w w1:=j.keep;have c:=n.get g id;have k:PP .i64 ((P:Int)-1)=((P-1:Nat):Int):=by rw[wrap_i64 cw];omega
 obtain⟨l,a,m,rfl,o,r,s⟩:=(h.af n).nE (i:=P-1) oM;refine⟨q,0,rfl,_,_,_,ae c rfl,q,0,rfl,_,_,_,ae c rfl,l,a,rfl,?_⟩;rw[k];refine⟨oM,oM,m,s,PC.ok (km (d.af n) r) ?_⟩;rintro _ B ⟨rfl,t⟩;refine⟨_,rfl,Ok.mk ⟨?_,n.then t⟩⟩;unfold dw.last;rw[List.getLast?_eq_getElem?,<-i,o];rfl
def JE(i:Laid w0)(f:cI w0 w p q V D X)(j:V.a_≠[]):be 135 #[RK q] w (Ok λk w'=>k= WP (D.sync V.last).1/\cI w0 w' p q V (D.sync V.last).2 X/\aj (dW X) w w'):=by
 refine vE λw1 l=>?_;have c:ai w w1:=l.keep;have m:=f.af c;obtain⟨G,o,n,g⟩:=m;obtain⟨y,z,A,B,r,C,E,h⟩:=n.row;have F:=g q n.self;have H:=n.aF q n.self;refine⟨λa=>a≠q/\¬X a,q,0,rfl,λs=>s.1 rfl,_,ae r rfl,PC.ok (JD (i.af (f.gr.then c)) n j) ?_⟩;rintro _ I ⟨rfl,b⟩;have t:=n.af b;have u:=o.af b;refine⟨_,rfl,b.keep,PC.ok u.sync ?_⟩;rintro _ J ⟨rfl,v,d⟩;refine⟨_,rfl,d.mono λa _ P=>⟨λx=>P (.inr (x▸n.self)),λe=>P (.inl e)⟩,Ok.mk ⟨rfl,⟨G,v,t.keep d λa P h=>h (.inr P),g⟩,?_⟩⟩;exact(ai.keep (c.then b)).then (d.mono λa _ P e=>P (.inl e))
def GV(n:jy w p q G V):be 145 #[RK q] w (Ok (qH aP 3 w V.a_)):=by
 obtain⟨i,j,k,l,a,b,c,m⟩:=n.row;refine qu ⟨q,0,rfl,_,_,_,ae a rfl,PC.ok (bS b λP d=>n.aF P (c P d).1) ?_⟩;rintro _ w1 ⟨o,r,s,e,rfl,f,g,h⟩;exact⟨_,_,_,rfl,Ok.mk ⟨_,_,_,e,rfl,f,g,h⟩⟩
def RQ(n:jy w p q G V):be 144 #[RK q] w (Ok λP w'=>P= WP V.next/\w=w'):=by
 obtain⟨b,c,d,e,a,f,g,h⟩:=n.row;exact vG ⟨q,0,rfl,_,ae a rfl,Ok.mk ⟨rfl,rfl⟩⟩

import Derived.Test.YtfchlbaidamodaaGreatDoorKc13
import Derived.Lib.AppendIntMem
import Derived.Laws.Concat
import Derived.Shelf.SlSortCmp.WholeK
import Derived.Shelf.SlMaps.Clone
import Derived.Ground.SlsfProg
import Derived.Ground.SlmcProg
import Derived.Shelf.SlGeneric
set_option linter.all false
set_option maxRecDepth 20000
namespace Go.Proofs.YtfchlbaidamodaaGreatDoor
open Go.ax
def gZ(a:List (ByteArray×nW)):Nat:=(a.map λb=>b.2.f.bytes.length).sum
def FL(a:List (ByteArray×nW)):gZ a=eL (a.map wC):=by unfold gZ eL;rw[List.map_map];rfl
variable{x:ByteArray}{f9 h2:List (ByteArray×Value)}{a2:List (ByteArray×nW)}{v:List UInt8}{a c i:Nat}{a4 f:Nat->Prop}{d:Option Addr}{j:Type}{w:Value}{b:World}
def yz{left:List (ByteArray×nW)}(e:left.map eQ=f9++(x,w)::h2):
  ∃a b c,left=a++(x,b)::c/\f9=a.map eQ/\h2=c.map eQ/\w=ptr b.q:=by
 obtain⟨a,l,f,g,h⟩:=List.map_eq_append_iff.1 e;obtain⟨i,c,j,d,k⟩:=List.map_eq_cons_iff.1 h;obtain⟨m,b⟩:=i;simp only[eQ,Prod.mk.injEq]at d;obtain⟨rfl,rfl⟩:=d;exact⟨a,b,c,by rw[f,j],g.symm,k.symm,rfl⟩
def PB{D:ak}(i:aW b a f D):
  Calls ZQ 224 #[ZX a] b (Ok λl j=>l= QH D.room/\ai b j):=by
 obtain⟨m,d,e⟩:=i.open;have Q:=e.ok.most;have n:=e.ok.fits;unfold ak.used at n;rw[e.files,<-FL]at n;refine v_ ⟨a,0,rfl,_,ae e.head rfl,a,0,rfl,some m,ae e.head rfl,mapRange mF e.map λR w x S=>?_⟩;refine⟨λo p j=>∃left:List (ByteArray×nW),dj j b.heap.size m Value.string (d.map eQ) (left.map eQ)/\o=left.length/\p=(D.most:Int)-gZ d+gZ left/\gZ left<=gZ d/\ai b j/\∀c∈left,c∈d,
  ⟨_,d,w,rfl,oM,Q4 _,x,λ_ i=>i⟩,?_⟩
 rintro o p T U ⟨left,y,rfl,rfl,V,q,r⟩;refine nX y (λz=>.inl ⟨rfl,Ok.mk ⟨?_,q⟩⟩) λk l W X s A B C E Y=>.inr ⟨_,_,rfl,ry C ?_⟩
 ·have:left=[]:=by simpa using z
  subst this;simp only[gZ,List.map_nil,List.sum_nil,ak.room,ak.used];rw[e.files,<-FL];simp[gZ]
 ·obtain⟨h,c,g,rfl,rfl,rfl,rfl⟩:=yz A
  have F:(k,c)∈d:=r _ sM;have t:ai b s:=q.new E λg Z=>.inr oM;have H:eX s c.q c.G c.f:=(e.each.each _ F).keep t λ_ _ i=>i;obtain⟨I,u,J,F0,K,L,h3,h4⟩:=H.body;have M:=L.len dC;have N:gZ (h++(k,c)::g)=gZ (h++g)+c.f.bytes.length:=by simp[gZ];omega
  have O:IntKind.wrap .i64 ((D.most:Int)-gZ d+gZ (h++(k,c)::g)-((u:Nat):Int))=(D.most:Int)-gZ d+gZ (h++g):=by
   rw[wrap_i64 (by unfold aN;omega),M,N];omega
  refine⟨_,_,rfl,c.q,0,rfl,I,u,J,ae K rfl,(h++g).length,sM,h++g,?_,rfl,O,oM,t,λP v=>r P ?_⟩
  ·rw[Q3];exact B
  ·simp only[Q6,Q2]at v⊢;exact v.imp id .inr
def zi{D:ak}(h:aW b a f D)(g:Row gq 1 b a4 d c v)(X:d=none->c=0/\i=0)(y:∀e,a4 e->e<b.heap.size/\¬f e):
  Calls ZQ 156 #[ZX a,.string x,.slice d c i] b (Ok (wD b a f (D.append x v))):=by
 have L:=g.len;have Y:=g.d_;unfold aQ at Y;refine tj (PA.mk λw1 z s1 M=>PA.mk λw2 m s2 Z=>⟨_,ae (m.get M id) rfl,PC.ok (wF ((h.af z).af m) (k:=x) (g:=223)
  (body:=λD N=>if(v.length:Int)>D.room then(12,D)else(0,D.eJ x {N with bytes:=N.bytes++v})) kR λhd s a0 b6 j k A t=>?_) λa1 w' h=>mr a1 w' (z.af m) h⟩)
 have e1:=t.get (m.get M id) λg=>by have:=h.aF _ g;omega
 have O:=t.get Z λg=>by have:=h.aF _ g;omega
 have a2:Row gq 1 s a4 d c v:=((g.af z).af m).keep t λe g=>(y e g).2;have B:=k.get A;refine qh λw4 u=>⟨λ_=>False,id,d,c,i,ae (u.keep (S:=λ_=>False)|>.get O id) rfl,_,ae (u.keep (S:=λ_=>False)|>.get e1 id) rfl,PC.ok (PB (k.af u.keep).at) ?_⟩
 rintro _ w5 ⟨rfl,P⟩;have C:ai s w5:=(bE.keep u).then P;refine⟨_,rfl,P,al.dec (λa5=>Ok.mk ?_) (λa6=>λn a7=>?_)⟩
 ·rw[if_pos (by rw[<-L];exact a5)]
  exact⟨f,rfl,(k.af C).at,C.keep,λ_ h=>.inl h⟩
 ·have o:ai s n:=C.af a7.keep
  have E:=k.af o;have Q:=cF A;have F:eX n j.q j.G j.f:=E.each.each _ Q;obtain⟨w,R,fc,F0,H,p,I,S⟩:=F.body;have b7:=p.len dC;have b8:j.f.bytes.length<=262144:=k.ok.len (cF B);have a8:∀e,j.G e->f e/\e≠a/\e≠a0:=E.Jy _ Q;refine⟨j.q,0,rfl,w,R,fc,ae H rfl,d,c,i,ae (o.get O id) rfl,?_⟩;have a3:∀e,a4 e->e<n.heap.size/\aI w≠some e:=λe g=>⟨by have:=(y e g).1;have:=t.size;have:=o.size;omega,λl=>(y e g).2 (a8 e (I e (p.self e l))).1⟩
  have b9:D.di.room<=262144:=by have:=k.ok.most;unfold ak.room;omega
  refine sE p ur (a2.af o) X a3 (by unfold aQ;omega) (by unfold maxLen;omega) λq c' w7 F' J K _ T=>?_;have hq:aI w≠some j.q:=λl=>S (p.self _ l);have c0:=aC H;have r:aI q≠some j.q:=λl=>by rcases T _ l with h|h;exact S h;omega
  refine⟨_,_,_,rfl,j.q,0,rfl,PS.mk (K.get H hq) sM λU V s8 g8=>Ok.mk ?_⟩;have W:¬((v.length:Int)>D.di.room):=by rw[<-L];exact a6
  rw[if_neg W];have a9:∀e,aI w=some e->j.G e:=λe l=>I e (p.self e l);have b0:eX U j.q (λe=>e=j.q\/aI q=some e) {j.f with bytes:=j.f.bytes++v}:=
   ⟨⟨q,R+c,c',λe=>aI q=some e,g8,J.alone.keep V (λe g b1=>r (by rw[<-b1];exact g)),λe g=>.inr g,r⟩,.inl rfl,by
    rintro e (rfl|g)
    ·have:=K.size;omega
    ·have:=J.aF e (J.self e g);omega⟩
  have b2:de j.G n (λe=>e=j.q\/aI q=some e) U:=⟨(K.mono λe _ g=>a9 e g).then (V.mono λe _ g=>g▸F.self),by
   rintro e (rfl|g)
   ·exact .inl F.self
   ·exact(T e g).imp (λh=>I e h) id⟩
  have b3:(D.di.eJ x {j.f with bytes:=j.f.bytes++v}).Ok:=k.ok.set B (by
   unfold ak.room at W;simp only[QX];omega) (by have:=k.ok.TD _ (cF B);simp only[QX];show j.f.synced<=_;have h':j.f.synced<=j.f.bytes.length:=this;omega)
  obtain⟨F2,b4,b5⟩:=E.fr A b0 b2 b3;exact⟨F2,rfl,b4.at,(de.mk o.keep λ_ h=>.inl h:de f s f n).trans b5⟩
def yA{D:ak}(i:aW b a f D):
  Calls ZQ 181 #[ZX a,.string x] b (Ok λn o=>∃k,n= .tuple #[k,QH (D.read x).2]/\qD gq 5 b (D.read x).1 k o):=by
 obtain⟨l,E,d⟩:=i.open;have c:qD gq 5 b [] (.slice none 0 0) b:=⟨none,0,0,λ_=>False,rfl,aV.nil b,aj.refl _,λ_ i=>i.elim⟩
 rcases d.box x with⟨h,j⟩|⟨g,F,p,h,j⟩
 ·refine mj ⟨a,0,rfl,some l,ae d.head rfl,AY mF kS d.map ?_⟩
  rw[j];refine⟨_,rfl,a,0,rfl,_,ae d.head rfl,al.mk (λe=>Ok.mk ?_) (λe=>fQ uF ⟨_,rfl,al.tt rfl (Ok.mk ?_)⟩)⟩
  ·unfold ak.read;rw[e,if_pos rfl];exact⟨_,rfl,c⟩
  ·unfold ak.read;rw[e,if_neg sM,h];exact⟨_,rfl,c⟩
 ·refine mj ⟨a,0,rfl,some l,ae d.head rfl,AY mF kS d.map ?_⟩
  rw[j];refine⟨_,rfl,a,0,rfl,_,ae d.head rfl,al.mk (λe=>Ok.mk ?_) (λe=>fQ uF ⟨_,rfl,al.ff rfl ?_⟩)⟩
  ·unfold ak.read;rw[e,if_pos rfl];exact⟨_,rfl,c⟩
  ·have q:eX b g.q g.G g.f:=d.each.each _ p
   obtain⟨r,s,t,H,u,m,I,J⟩:=q.body;have K:g.f.bytes.length<=262144:=d.ok.len (cF h);refine⟨g.q,0,rfl,r,s,t,ae u rfl,PC.ok (lG (m.row dC (by unfold aQ;omega)) m.aF) ?_⟩;rintro _ L ⟨v,w,y,z,rfl,A,B,C⟩;unfold ak.read;rw[e,if_neg sM,h];exact⟨_,_,_,rfl,Ok.mk ⟨_,rfl,v,w,y,z,rfl,A,B,C⟩⟩
def yB{D:ak}(l:aW b a f D):
  Calls ZQ 176 #[ZX a] b (Ok (qD Px 9 b D.list)):=by
 obtain⟨i,j,c⟩:=l.open;have A:=c.ok.many;have B:j.length=D.files.length:=by rw[c.files];simp
 refine vX ⟨a,0,rfl,some i,ae c.head rfl,PC.ok (φ:=λm g=>m= .func (.func 296) #[] #[ZX b.heap.size]/\ai b g/\g.heap.size=b.heap.size+1/\
  g.heap[b.heap.size]? =some (.cells #[.map (some i)] 140 (0,0))) (ey (PA.mk λn d k h=>Ok.mk ⟨rfl,d,k,h⟩)) ?_⟩
 rintro _ n ⟨rfl,d,k,h⟩;refine⟨_,rfl,PC.ok (AK (c.map.af d) (λC o=>?_) (by rw[Q8];unfold aQ;omega) h) ?_⟩
 ·obtain⟨e,p,rfl⟩:=Xk.1 o
  have:=c.ok.names (wC e) (by rw[c.files];exact Xk.2 ⟨e,p,rfl⟩);unfold dv at this;simp only[QK,decide_eq_true_eq]at this;have E:e.1.size<=16:=this.1.2;show e.1.size<=maxLen;unfold maxLen;omega
 ·rintro _ F ⟨q,r,s,t,rfl,u,v,w⟩
  refine⟨_,_,_,rfl,Ok.mk ⟨q,r,s,t,rfl,?_,d.af v,λx y=>by have:=w x y;omega⟩⟩;have z:tP ((j.map eQ).map (·.1))=D.list:=by unfold ak.list;rw[c.files,List.map_map,List.map_map];rfl
  rw[<-z];exact u
def JB{a:List (ByteArray×j)}(b:Tidy a)(c:ByteArray):bV a c=a.filter λd=>d.1 !=c:=by
 induction a with
 |nil=>rfl
 |cons h a g=>
  obtain⟨d,m⟩:=h;unfold Tidy at b g;simp only[QY,List.nodup_cons]at b;unfold bV
  by_cases e:(c==d)=true
  ·rw[if_pos e]
   have i:c=d:=eq_of_beq e;subst i;rw[List.filter_cons_of_neg sM];exact(List.filter_eq_self.2 λk l=>by
    simp only[bne_iff_ne,ne_eq];intro f;exact b.1 (f▸Xk.2 ⟨k,l,rfl⟩)).symm
  ·rw[if_neg e,g b.2,List.filter_cons_of_pos]
   simp only[bne_iff_ne,ne_eq];intro f;exact e (by rw[f];simp)
def stays(left:List (ByteArray×nW))(a:ByteArray×nW):Bool:=a.2.f.jk||left.any λb=>b.1==a.1
def AL(K:cx b a Value.string (a2.map eQ))(n:FJ b a2)(L:∀c∈a2,∀e,c.2.G e->e≠a):
  Calls ZQ 121 #[.map (some a),.func (.func 122) #[] #[]] b
   (Ok λp j=>p= .tuple #[]/\cx j a Value.string ((a2.filter λc=>c.2.f.jk).map eQ)/\aj (·=a) b j):=by
 have M:enters ZQ 122=true:=kR
 refine dE (mapRange mF K λw1 N O s1=>?_);refine⟨λv j=>∃left:List (ByteArray×nW),dj j b.heap.size a Value.string ((a2.filter (stays left)).map eQ) (left.map eQ)/\v=left.length/\aj (·=a) b j/\(∀c∈left,c∈a2)/\Tidy left,
  ⟨_,a2,?_,rfl,O.keep,λ_ P=>P,n.tidy⟩,?_⟩
 ·have k:a2.filter (stays a2)=a2:=List.filter_eq_self.2 λc o=>by
   unfold stays;rw[Bool.or_eq_true];exact .inr (List.any_eq_true.2 ⟨c,o,sM⟩)
  rw[k];exact N
 ·rintro v a0 w2 ⟨left,q,rfl,w,x,l⟩
  refine nX q (λm=>.inl ⟨rfl,Ok.mk ⟨rfl,?_,w⟩⟩) λf p l1 l2 s Q y R S s3=>.inr ⟨_,_,rfl,ry R ?_⟩
  ·have:left=[]:=by simpa using m
   subst this;have k:(a2.filter (stays []))=a2.filter λc=>c.2.f.jk:=List.filter_congr λc _=>by simp[stays]
   rw[k]at q;exact q.map
  ·obtain⟨g,c,e,rfl,rfl,rfl,rfl⟩:=yz Q
   have o:(f,c)∈a2:=x _ sM;have a6:b.heap.size≠a:=q.ne;have t:aj (·=a) b s:=w.new S λe z=>.inr oM;have T:eX s c.q c.G c.f:=(n.each _ o).keep t λe z=>L _ o e z;obtain⟨fa,fn,fc,F0,r,A,h3,h4⟩:=T.body;have B:f∉(g++e).map (·.1):=by
    unfold Tidy at l;rw[Q3,QY]at l;rw[Q3];intro U;have V:=(List.perm_middle (a:=f) (l₁:=g.map (·.1)) (l₂:=e.map (·.1))).nodup_iff.1 l;exact(List.nodup_cons.1 V).1 U
   have C:∀d∈a2,d.1≠f->stays (g++(f,c)::e) d=stays (g++e) d:=λd h i=>by
    unfold stays
    congr 1
    have:(f==d.1)=false:=beq_false_of_ne (Ne.symm i);simp[List.any_append,this]
   have E:∀d∈a2,d.1=f->d=(f,c):=λd h m=>by
    have r:=rp n.tidy (k:=d.1) (v:=d.2) h;have A:=rp n.tidy (k:=f) (v:=c) o;rw[m,A]at r;exact Prod.ext m (XJ r).symm
   have W:(g++e).any (λd=>d.1==f)=false:=by
    rw[List.any_eq_false];intro d h m;exact B (Xk.2 ⟨d,h,eq_of_beq m⟩)
   have F:Tidy (g++e):=by
    unfold Tidy at l⊢;rw[Q3,QY]at l;rw[Q3];exact(List.nodup_cons.1 ((List.perm_middle (a:=f) (l₁:=g.map (·.1)) (l₂:=e.map (·.1))).nodup_iff.1 l)).2
   have H:∀d∈g++e,d∈a2:=λd h=>x d (by simp only[Q6,Q2]at h⊢;exact h.imp id .inr);have I:(g++e).length<(g++(f,c)::e).length:=sM
   refine⟨_,_,rfl,_,_,_,rfl,M,PC.ok (φ:=λp j=>p= .bool (!c.f.jk)/\j=s) (q_ ⟨c.q,0,rfl,_,ae r rfl,Ok.mk ⟨rfl,rfl⟩⟩) ?_⟩;rintro _ _ ⟨rfl,rfl⟩;refine⟨_,rfl,al.not (al.mk (λu=>⟨_,I,g++e,?_,rfl,t,H,F⟩) (λu=>?_))⟩
   ·have k:a2.filter (stays (g++(f,c)::e))=a2.filter (stays (g++e)):=List.filter_congr λd h=>by
     by_cases i:d.1=f
     ·rw[E d h i];simp[stays,u]
     ·exact C d h i
    rw[Q3,<-k];exact y
   ·refine RU mF kS y (by rw[<-Q3];simpa[eQ,Function.comp_def]using B) λw4 J X s4=>⟨_,I,g++e,?_,rfl,t.then X,H,F⟩
    have k:bV ((a2.filter (stays (g++(f,c)::e))).map eQ) f=(a2.filter (stays (g++e))).map eQ:=by
     have Y:bV ((a2.filter (stays (g++(f,c)::e))).map eQ) f=(bV (a2.filter (stays (g++(f,c)::e))) f).map eQ:=(Cu (λc:nW=>ptr c.q) _ f).symm;have Z:Tidy (a2.filter (stays (g++(f,c)::e))):=List.Nodup.sublist (List.Sublist.map _ List.filter_sublist) n.tidy;rw[Y,JB Z,List.filter_filter]
     congr 1
     refine List.filter_congr λd h=>?_
     by_cases i:d.1=f
     ·rw[E d h i]
      simp only[stays,u,W,Bool.or_false,bne_self_eq_false,Bool.false_and]
     ·rw[C d h i]
      have:(d.1 !=f)=true:=by simpa using i
      rw[this,Bool.true_and]
    rw[k,<-Q3]at J;exact J
end Go.Proofs.YtfchlbaidamodaaGreatDoor
namespace Go.ax
open Go
def cR(a:List UInt8):ByteArray:=⟨a.toArray⟩
def og(a:List UInt8):(cR a).data.toList=a:=by simp[cR]
def WM(a:ByteArray):cR a.data.toList=a:=by simp[cR]
variable{a7 v:List UInt8}{a:Nat}{R Y:Operand}{h:Program}{g:TypeId}{o u:Value->World->Prop}{b:World}
def Ox(a:cR v=cR a7):v=a7:=by rw[<-og v,a,og]
def jf(a:List UInt8):(cR a).size=a.length:=by simp[cR,ByteArray.size]
def gV(a:ByteArray):Int×Bool:=match jw a.data.toList with
 |some b=>(b,true)
 |none=>(0,false)
def Zc{a c:List UInt8}(e:a.length+c.length<=1000000000)(d:o (.string (cR (a++c))) b):
  aH h (do eqGuard .add g R Y (.string (cR a)) (.string (cR c));binOp .add g (.string (cR a)) (.string (cR c))) b o u:=by
 refine aH.mk (v:=.string (cR a++cR c)) (w':=b) ?_ ?_
 ·rw[Sem.run_bind,show(eqGuard .add g R Y (.string (cR a)) (.string (cR c))).run h b= .ok () b from rfl,Result.andThen_ok,binOp_string_add,run_string_add_sum b (cR a) (cR c) (by rw[jf,jf];omega)]
 have:cR a++cR c=cR (a++c):=by
  apply ByteArray.ext;simp[cR]
 rw[this];exact d
def ai.UQ{c:Array Obj}:ai b (Sort.grow (b.drewN a) c):=
 ⟨rfl,rfl,rfl,sM,λe d _=>by rw[Sort.heap_grow_old _ _ (by simpa using d)];rfl⟩
end Go.ax
namespace Go.Proofs.YtfchlbaidamodaaGreatDoor
open Go.ax
structure Laid (w:World):Prop where
 oH:qU w
 pow:Lib.TabIs ZQ w "internal/strconv.uint64pow10" .u64 Lib.pow10Tab
variable{x:ByteArray}{e:Int}{a7 v:List UInt8}{b k:World}
def Laid.af(a:Laid b)(c:ai b k):Laid k:=⟨a.oH.af c,Lib.tabBelow_of_tabIs a.pow k c.below⟩
def strconv_Itoa{a:Int}{b:World}(e:Laid b)(c:aN a):Calls ZQ 173 #[QH a] b (Ok λf d=>f= .string (cR (Lib.itoa a))/\ai b d):=by
 refine(Any.strconv_Itoa Tryz.Ta a c.1 c.2 b e.pow).mono ?_;rintro g d ⟨rfl,h,i,rfl⟩;exact Ok.mk ⟨rfl,ai.UQ⟩
def jV(c:Laid b)(d:aN e):Calls ZQ 120 #[QH e] b (Ok λf g=>f= .string (cR (aB e))/\ai b g):=by
 refine BU (al.dec (λa=>?_) (λi=>al.dec (λa=>?_) (λj=>PC.ok (strconv_Itoa c d) ?_)))
 ·exact Ok.mk ⟨by unfold aB;rw[if_pos (.inl a)];rfl,aj.refl _⟩
 ·exact Ok.mk ⟨by unfold aB;rw[if_pos (.inr a)];rfl,aj.refl _⟩
 rintro _ k ⟨rfl,h⟩;refine⟨_,rfl,Zc (a:=dV) ?_ ⟨_,rfl,Ok.mk ⟨?_,h⟩⟩⟩
 ·have:=pC (u:=e.toNat) oM
  unfold Lib.itoa;rw[if_neg oM];show 4+_<=_;omega
 ·rw[mI oM oM]
  unfold Lib.itoa;rw[if_neg oM]
def DM:Calls ZQ 328 #[.string (cR v),.string (cR a7)] b (Ok λd e=>d= .bool (decide (v.take a7.length=a7))/\b=e):=by
 refine iE ?_;rw[jf,jf];refine al.dec (λa=>⟨oM,oM,Ok.mk ⟨?_,rfl⟩⟩) (λa=>Ok.mk ⟨?_,rfl⟩)
 ·rw[Qx]
  have c:ByteArray.toList (ByteArray.extract (cR v) 0 a7.length)=v.take a7.length:=by
   rw[ByteArray.toList_eq,ByteArray.data_extract];simp[cR]
  have f:ByteArray.toList (cR a7)=a7:=by rw[ByteArray.toList_eq,og]
  rw[c,f]
  congr 1
  by_cases a:v.take a7.length=a7<;>simp[a]
 ·have:v.take a7.length≠a7:=λc=>by have:=congrArg List.length c;simp at this;omega
  rw[Xv this]
def Fc:Calls ZQ 248 #[.string (cR v),.string (cR a7)] b (Ok λc d=>c= .tuple (if v.take a7.length=a7 then #[.string (cR (v.drop a7.length)),.bool true]else #[.string (cR v),.bool false])/\b=d):=by
 refine rf (PC.ok (φ:=λc d=>c= .tuple (if v.take a7.length=a7 then #[.string (cR (v.drop a7.length)),.bool true]else #[.string (cR v),.bool false])/\b=d) (iC (PC.ok DM ?_)) ?_)
 ·rintro _ _ ⟨rfl,rfl⟩
  refine⟨_,rfl,?_⟩;rw[jf,jf]
  by_cases a:v.take a7.length=a7
  ·rw[if_pos a,decide_eq_true a]
   have g:a7.length<=v.length:=by have:=congrArg List.length a;simp at this;omega
   refine al.ff rfl ⟨oM,oM,Ok.mk ⟨?_,rfl⟩⟩;have e:ByteArray.extract (cR v) (Int.toNat ((a7.length:Nat):Int)) v.length=cR (v.drop a7.length):=by
    apply ByteArray.ext;rw[Qx,ByteArray.data_extract];have f:List.take (v.length-a7.length) (List.drop a7.length v)=List.drop a7.length v:=Qz sM;simp[cR,f]
   rw[e]
  ·rw[if_neg a,Xv a]
   exact al.tt rfl (Ok.mk ⟨rfl,rfl⟩)
 ·rintro _ _ ⟨rfl,rfl⟩
  split
  ·exact⟨_,_,rfl,Ok.mk ⟨rfl,rfl⟩⟩
  ·exact⟨_,_,rfl,Ok.mk ⟨rfl,rfl⟩⟩
def BI(z:Laid b):Calls ZQ 177 #[.string x] b (Ok λm f=>m= .tuple #[QH (gV x).1,.bool (gV x).2]/\ai b f):=by
 rw[<-WM x];generalize x.data.toList=g;have e:(⟨#[115,101,103,46]⟩:ByteArray)=cR dV:=rfl;unfold gV;rw[og];refine ye ?_;rw[e];refine PC.ok Fc ?_;rintro _ _ ⟨rfl,rfl⟩;have no:∀f,jw g=none->ai b f->Ok (λm f=>m= .tuple #[QH (match jw g with|some n=>((n:Int),true)|none=>(0,false)).1,.bool (match jw g with|some n=>((n:Int),true)|none=>(0,false)).2]/\ai b f) (.returned (.tuple #[QH 0,.bool false])) f:=λf q A=>by
  rw[q];exact Ok.mk ⟨rfl,A⟩
 by_cases h:g.take dV.length=dV
 ·rw[if_pos h]
  refine⟨_,_,rfl,al.ff rfl ?_⟩;have r:g=dV++g.drop 4:=by
   have:=List.take_append_drop 4 g;rw[show g.take 4=dV from h]at this;exact this.symm
  change al (decide (((ByteArray.size (cR (g.drop 4)):Nat):Int)>12)) _ _
  generalize S:g.drop 4=c at r;subst r;rw[jf];refine al.dec (λq=>no _ (NA (by rw[QX];show 16<4+_;omega)) (aj.refl _)) (λT=>?_);refine CI Tryz.underlying9 λU B C V=>⟨λs t f=>∃a,s=c.length-a/\a<=c.length/\t=(fq (c.take a):Int)/\f.heap[b.heap.size]? =some (.stringIter (cR c) a)/\ai b f/\(c.take a).all gQ=true,⟨_,0,rfl,Qj _,rfl,B,C,rfl⟩,?_⟩
  rintro s t W X ⟨a,rfl,Y,rfl,E,i,j⟩;have F:=yR _ j;refine HL E (λH=>.inl ⟨rfl,?_⟩) λe u v k Z=>.inr ⟨_,_,rfl,?_⟩
  ·rw[jf]at H
   rw[Qz oM]at j F⊢;have a0:10 ^ c.length<=10 ^ 12:=Nat.pow_le_pow_right oM oM;have I:(10:Nat) ^ 12=1000000000000:=dC
   refine PC.ok (jV (z.af i) (by unfold aN;omega)) ?_;rintro _ u ⟨rfl,k⟩;have w:=Iu j oM;refine⟨_,rfl,al.Zl (λJ=>no _ ?_ (i.then k)) (λK=>?_)⟩
   ·rw[w,if_neg λL=>J (by rw[L])]
   ·rw[w,if_pos (Ox K)]
    exact Ok.mk ⟨rfl,i.then k⟩
  ·have o:a<c.length:=by rwa [jf]at e
   have l:ai b u:=i.new k λa1 y=>.inr oM;have p:c[a]? =some ((cR c)[a]'e):=by
    rw[Qq o]
    congr 1
   have d:gQ ((cR c)[a]'e)=false->jw (dV++c)=none:=λM=>KO (List.all_eq_false.2 ⟨_,QZ p,by simp[M]⟩)
   by_cases y:((cR c)[a]'e).toNat<128
   ·rw[decode_ascii _ a e y]at v⊢
    simp only;refine al.dec (λN=>no _ (d ?_) l) (λO=>al.dec (λP=>no _ (d ?_) l) (λQ=>?_))
    ·unfold gQ;exact Xv oM
    ·unfold gQ;exact Xv oM
    ·have a2:10 ^(c.take a).length<=10 ^ 12:=Nat.pow_le_pow_right oM (by simp;omega)
     have I:(10:Nat) ^ 12=1000000000000:=dC
     refine⟨_,oM,a+1,rfl,oM,?_,v,l,?_⟩
     ·rw[Qw,p]
      show _=((fq (c.take a++[_]):Nat):Int);rw[fY];have R:IntKind.wrap .i32 ((((cR c)[a]'e).toNat:Int)-48)=(((cR c)[a]'e).toNat:Int)-48:=by
       unfold IntKind.wrap;simp[IntKind.signed,IntKind.bits];omega
      rw[R,wrap_i64 (x:=(((cR c)[a]'e).toNat:Int)-48) (by unfold aN;omega),wrap_i64 (x:=10*_) (by unfold aN;omega),wrap_i64 (by unfold aN;omega)];omega
     ·rw[Qw,p,List.all_append,j]
      simp[gQ];omega
   ·have hh:=(decode_high _ a e oM).1
    refine al.dec (λN=>oM) (λO=>al.dec (λP=>no _ (d ?_) l) (λQ=>oM));unfold gQ;exact Xv oM
 ·rw[if_neg h]
  exact⟨_,_,rfl,al.tt rfl (no _ (QI h) (aj.refl _))⟩
end Go.Proofs.YtfchlbaidamodaaGreatDoor
namespace Go.Proofs.YtfchlbaidamodaaGreatDoor
open Go.ax
def Vy:jP ZQ 55 3 1 8:=⟨kR,kR,dC⟩
def fH(b:List Int)(a:Int):Int:=if a<0 then 0 else max (b.getD a.toNat 0) 0
variable{e m:Int}{b3 s:List Int}{a c i n:Nat}{d p:Option Addr}{b:World}{l:ah}
def HM(b:0<=e)(a:s[e.toNat]? =some m):fH s e=max m 0:=by
 unfold fH;rw[if_neg oM];simp[List.getD,a]
def JF(a:(s.length:Int)<=e):fH s e=0:=by
 unfold fH;split
 ·rfl
 ·have:s[e.toNat]? =none:=by simp;omega
  simp[List.getD,this]
def oD{i:Int}(h:Ints b d a s):
  Calls ZQ 112 #[.slice d a c,QH i] b (Ok λj k=>j= QH (fH s i)/\b=k):=by
 refine Po ?_;refine al.mk (λf=>?_) (λf=>al.mk (λe=>?_) (λe=>?_))
 ·have:=XV f
  exact Ok.mk ⟨by simp[fH,this],rfl⟩
 ·have e:=XV e
  exact Ok.mk ⟨by rw[JF (by rw[<-h.len];exact e)],rfl⟩
 ·have f:=Xy f
  have e:=Xy e;obtain⟨l,g,m,rfl,p,n,q,o⟩:=h.at (i:=i) oM oM;refine⟨l,g,rfl,oM,oM,m,o,Ok.mk ⟨?_,rfl⟩⟩;rw[HM oM n]
  congr 1
  omega
def oC(b c:List Int)(d:Nat):List Int:=(List.range d).map λ(a:Nat)=>max (fH b a) (fH c a)
def jo(a b:List Int):List Int:=oC a b (max a.length b.length)
def KW(b c:List Int)(a:Nat):oC b c (a+1)=oC b c a++[max (fH b a) (fH c a)]:=by simp[oC,List.range_succ]
def tO(b c:List Int)(a:Nat):(oC b c a).length=a:=by simp[oC]
def Ix(b:World)(g:TypeId)(h:List Int)(i:Value)(c:World):Prop:=
 ∃a d e,i= .slice a d e/\Own c g 1 a d e (ints h)/\ai b c/\∀f,aI a=some f->b.heap.size<=f
def U_:(if m>e then m else e)=max e m:=oM
def BG(k:Ints b d a s)(e:Ints b p c b3):
  Calls ZQ 108 #[.slice d a i,.slice p c n] b (Ok (Ix b 3 (jo s b3))):=by
 have w:=k.len;have x:=e.len;have y:=k.d_;have z:=e.d_;unfold aQ at y z;refine LM ⟨λq l f r t u=>t=(f:Int)/\f<=max a c/\q=max a c-f/\Own u 3 1 l f r (ints (oC s b3 f))/\ai b u/\∀p,aI l=some p->b.heap.size<=p,
  ⟨_,rfl,oM,rfl,Own.nil _ _ _,aj.refl _,by simp[aI]⟩,?_⟩
 rintro q l f r t _ E ⟨rfl,F,rfl,v,g,m⟩;refine al.mk (λh=>?_) (λh=>?_)
 ·have h:=XV h
  refine PC.ok (oD (k.af g)) ?_;rintro _ _ ⟨rfl,rfl⟩;refine⟨_,rfl,PC.ok (oD (e.af g)) ?_⟩;rintro _ _ ⟨rfl,rfl⟩;refine⟨_,rfl,PA.mk λH o I A=>?_⟩;refine NQ Vy (v.af o) A (by unfold aQ;omega) λJ K L B C j=>?_;refine⟨_,_,_,rfl,_,?_,?_,oM,rfl,?_,(g.af o).new C ?_,?_⟩
  ·omega
  ·rw[wrap_i64 (by unfold aN;omega)];simp
  ·rw[KW,<-U_];exact B
  ·intro p e;exact .inr (m p e.symm)
  ·intro p e
   rcases j with j|j
   ·exact m p (j▸e)
   ·rw[j]at e;cases e;have:=g.size;have:=o.size;omega
 ·have h:=Xy h
  have:f=max a c:=oM
  subst this;refine Ok.mk ⟨_,_,_,rfl,?_,g,m⟩;unfold jo;rw[<-w,<-x];exact v
def zW(a b:List Int):Nat->Int
 |0=>0
 |k+1=>if fH a k<fH b k then Rg .i64 (zW a b k) 1 else if fH a k>fH b k then Rg .i64 (zW a b k) 2 else zW a b k
def sk(a b:List Int):Int:=zW a b (max a.length b.length)
def OP(j:Ints b d a s)(k:Ints b p c b3):
  Calls ZQ 109 #[.slice d a i,.slice p c n] b (Ok λt l=>t= QH (sk s b3)/\b=l):=by
 have u:=j.len;have v:=k.len;have w:=j.d_;have x:=k.d_;unfold aQ at w x;refine Pn ⟨λo q r l=>∃e:Nat,r=e/\e<=max a c/\o=max a c-e/\q=zW s b3 e/\l=b,
  ⟨_,0,rfl,oM,rfl,rfl,rfl⟩,?_⟩
 rintro o q r _ y ⟨e,rfl,z,rfl,rfl,rfl⟩;refine al.mk (λh=>?_) (λh=>?_)
 ·have h:=XV h
  refine PC.ok (oD j) ?_;rintro _ _ ⟨rfl,rfl⟩;refine⟨_,rfl,PC.ok (oD k) ?_⟩;rintro _ _ ⟨rfl,rfl⟩;have m:IntKind.wrap .i64 ((e:Int)+1)=((e+1:Nat):Int):=by rw[wrap_i64 (by unfold aN;omega)];simp
  refine⟨_,rfl,al.mk (λf=>?_) (λf=>al.mk (λg=>?_) (λg=>?_))⟩
  ·have f:=XV f
   exact⟨_,oM,e+1,m,oM,rfl,by simp[zW,f],rfl⟩
  ·have f:=Xy f
   have g:=XV g;exact⟨_,oM,e+1,m,oM,rfl,by simp[zW,f,g],rfl⟩
  ·have f:=Xy f
   have g:=Xy g;exact⟨_,oM,e+1,m,oM,rfl,by simp[zW,f,g],rfl⟩
 ·have h:=Xy h
  have:e=max a c:=oM
  subst this;exact Ok.mk ⟨by unfold sk;rw[<-u,<-v],rfl⟩
structure kO where
 ck:Int
 qF:Int
 lU:Int
 least:Int
 deriving DecidableEq
structure bD where
 kind:Int
 eV:Int
 floor:Bool
 bH:List kO
 deriving DecidableEq
structure jO where
 bd:Int
 field:Int
 group:Int
 GO:Int
 make:Int
 deriving DecidableEq
structure aR where
 types:List (List bD)
 projs:List jO
 deriving DecidableEq
structure jS where
 bd:Int
 agg:Int
 field:Int
 op:Int
 arg:Int
 expect:Int
 key:Int
 deriving DecidableEq
structure du where
 n:Int
 set:List Int
 deriving DecidableEq
structure mV where
 version:Int
 cells:List du
 deriving DecidableEq
structure df where
 ev:ah
 void:Bool
 GO:Int×Int
structure ep where
 group:Int
 value:Int
 count:Int
 deriving DecidableEq
abbrev pH(a:Int):Int:=IntKind.wrap .i64 a
def within(a b c:Int):Bool:=decide (b<=a)&&decide (a<=c)
def aR.at(a:aR)(b:Int):List bD:=if within b 0 (a.types.length-1)then a.types.getD b.toNat []else []
def aR.Ed(a:aR)(b c:Int):Option bD:=
 if within b 0 (a.types.length-1)&&within c 0 ((a.at b).length-1)then(a.at b)[c.toNat]? else none
def rO(a:Int):Int:=if a=1 then 1 else if a=2 then 2 else if a=3 then 3 else if a=4 then 3 else if a=5 then 4 else 0
def jY(b:aR)(c d op arg:Int):Int:=match b.Ed c d with
 |none=>8
 |some a=>if !within op 1 5||rO op !=a.kind then 2 else if op==1&&arg==0||op==5&& !within arg 0 (a.bH.length-1)then 1 else 0
def sj(a:aR):Bool:=
 if !within a.types.length 1 8||decide (8<a.projs.length)then true else
 a.types.any λc=>!within c.length 1 8||c.any λb=>if b.kind==4 then !within b.bH.length 1 16 else decide (0<b.bH.length)
def Tz(b:List bD)(c a:Int):Bool:=within c 0 (b.length-1)&&((b[c.toNat]?).map (·.kind)==some a)
def Wn(a b:Int):Bool:=b==1||b==2&&within a 2 4||b==3&&a==2
def fK(a:List bD)(f:bD):Int:=
 if !within f.kind 1 4 then 2 else if !within f.eV 1 3|| !Wn f.kind f.eV||f.floor&&f.kind !=1 then 1 else
 if f.bH.any λm=>decide (m.ck<0)||decide (m.qF<0)||m.lU== -1&&m.least !=0 then 1 else
 if f.bH.any λm=>m.lU != -1&& !Tz a m.lU 1 then 8 else 0
def mK(b:aR)(a:jO):Int:=
 if(b.Ed a.bd a.field).isNone then 8 else
 if a.group==3&& !Tz (b.at a.bd) a.GO 2||a.group !=3&&a.GO !=0 then 8 else
 if !within a.group 1 3|| !within a.make 1 5 then 2 else 0
def cO{b:Type}(a:b->Int):List b->Int
 |[]=>0
 |x::c=>if a x !=0 then a x else cO a c
def dd(a:aR):Int:=
 if sj a then 3 else
 let b:=cO (λc=>cO (fK c) c) a.types
 if b !=0 then b else cO (mK a) a.projs
def aO(a:ah):Int×Int:=(a.origin,a.seq)
def fg(a b:ah):Bool:=decide (a.aA<b.aA)||a.aA==b.aA&&(decide (a.origin<b.origin)||a.origin==b.origin&&decide (a.seq<b.seq))
def tJ(a b:ah):Int:=if fg a b then-1 else if fg b a then 1 else 0
def dh(a:ah)(b:Nat):Int:=
 if a.origin<0\/(b:Int)<=a.origin\/min a.seq a.aA<1\/min a.agg a.key<0\/a.aK.length≠b\/a.aK.any (λc=>decide (c<0))then 1 else
 if a.aK.getD a.origin.toNat 0≠pH (a.seq-1)then 9 else
 if a.op<1\/5<a.op then 2 else if min a.bd a.field<0\/8<=a.bd\/8<=a.field then 8 else 0
def Ck(a b:ah):Bool:=decide (a.seq<=fH b.aK a.origin)
def wy(a b:ah):Bool:=aO a !=aO b&& !Ck a b&& !Ck b a
structure aq where
 n:Nat
 l:List ah
def dO(a:ah):List ah->List ah
 |[]=>[a]
 |x::b=>if fg a x then a::x::b else x::dO a b
def aq.sX(a:aq)(b:Nat):Nat:=a.l.countP λc=>c.origin==(b:Int)
def aq.vec(a:aq):List Int:=(List.range a.n).map λb=>(a.sX b:Int)
def aq.get(a:aq)(id:Int×Int):Option ah:=a.l.find? λb=>aO b==id
def aq.top(a:aq):Int:=a.l.foldl (λb c=>max b c.aA) 0
def aq.ly(f:aq)(a:ah)(c:Nat):Bool:=
 let d:=a.aK.getD c 0
 d==0||match f.get (c,d)with
  |none=>false
  |some b=>decide (b.aA<a.aA)&&(List.range b.aK.length).all λe=>decide (b.aK.getD e 0<=a.aK.getD e 0)
def aq.add(a:aq)(b:ah):Int×aq:=
 let no:=dh b a.n
 if no≠0 then(no,a)else
 if(a.get (aO b)).isSome then(16,a)else
 if b.seq≠(a.vec.getD b.origin.toNat 0)+1 then(9,a)else
 if(List.range a.n).any λc=>!a.ly b c then(9,a)else(0,{a with l:=dO b a.l})
def aq.eI(a:aq)(l:List ah):aq:=l.foldl (λa b=>(a.add b).2) a
def aq.missing(c:aq)(d:List Int)(a:Int):List ah:=(c.l.filter λb=>decide (max 0 (fH d b.origin)<b.seq)).take (max 0 a).toNat
def aq.keyed(a:aq)(key:Int):Option ah:=a.l.find? λb=>key !=0&&b.key==key
def dG(a:List bD):List du:=a.map λ_=>⟨0,[]⟩
def NT(a b:Int):Bool:=decide (a<pH (a+b))==decide (0<b)
def xL(g:List bD)(e:List du)(a d arg:Int):Int:=
 let f:=g.getD a.toNat ⟨0,0,false,[]⟩
 let b:=e.getD a.toNat ⟨0,[]⟩
 let h:Bool:=
  if d=1 then(arg==0||NT b.n arg)&& !(f.floor&&decide (pH (b.n+arg)<0))
  else if d=3 then decide (arg∈b.set)||decide (b.set.length<64)
  else if d=5 then(let c:=f.bH.getD arg.toNat ⟨0,0,0,0⟩;b.n==c.ck&&(decide (c.lU<0)||decide (c.least<=(e.getD c.lU.toNat ⟨0,[]⟩).n)))
  else true
 if h then 0 else 10
def qN(a:Int):List Int->List Int
 |[]=>[a]
 |y::b=>if a<y then a::y::b else if a=y then y::b else y::qN a b
def TO(e:List bD)(c:List du)(a d arg:Int):List du:=
 let f:=e.getD a.toNat ⟨0,0,false,[]⟩
 let b:=c.getD a.toNat ⟨0,[]⟩
 if d=1 then c.set a.toNat {b with n:=pH (b.n+arg)}
 else if d=2 then c.set a.toNat {b with n:=arg}
 else if d=3 then c.set a.toNat {b with set:=qN arg b.set}
 else if d=4 then c.set a.toNat {b with set:=b.set.filter λg=>g !=arg}
 else if d=5 then c.set a.toNat {b with n:=(f.bH.getD arg.toNat ⟨0,0,0,0⟩).qF}
 else c
def fl(c:bD)(a b:Int×Int):Bool:=
 if c.kind=2 then a.1==2&&b.1==2&&a !=b
 else if c.kind=4 then a.1==5&&b.1==5&&a !=b
 else if c.kind=3 then a==(3,b.2)&&b==(4,a.2)||a==(4,b.2)&&b==(3,a.2)
 else false
def mU(f:bD)(a b:ah):Bool:=(f.eV==2||f.eV==3&&decide (b.arg<a.arg))&&fl f (a.op,a.arg) (b.op,b.arg)&&wy a b
structure bk where
 decl:aR
 entries:List df
 fj:List ((Int×Int)×mV)
 done:List ((Int×Int×Int)×List ah)
def bk.new(a:aR):bk:=⟨a,[],[],[]⟩
def bk.try(b:bk)(a:ah):Bool×(Int×Int)×bk:=
 if jY b.decl a.bd a.field a.op a.arg≠0 then(true,(0,0),b)else
 let e:=b.decl.at a.bd
 let d:=(a.bd,a.agg,a.field)
 match((ay b.done d).getD []).find? λg=>mU (e.getD a.field.toNat ⟨0,0,false,[]⟩) g a with
 |some g=>(true,aO g,b)
 |none=>
  let f:=ay b.fj (a.bd,a.agg)
  let c:=match f with
   |some f=>f.cells
   |none=>dG e
  if xL e c a.field a.op a.arg≠0 then(true,(0,0),b)else
  (false,(0,0),{b with
   fj:=aJ b.fj (a.bd,a.agg) ⟨pH ((f.getD ⟨0,[]⟩).version+1),TO e c a.field a.op a.arg⟩
   done:=aJ b.done d ((ay b.done d).getD []++[a])})
def bk.add(d:bk)(b:ah):df×bk:=
 let a:=d.try b
 let c:df:=⟨b,a.1,a.2.1⟩
 (c,{a.2.2 with entries:=a.2.2.entries++[c]})
def bk.state(a:bk)(b c:Int):Option mV:=ay a.fj (b,c)
def cG(a:aR)(b:List ah):bk:=b.foldl (λc d=>(c.add d).2) (bk.new a)
def ll(d:List df)(e b f:Int)(a:Nat):List df×Bool:=
 let own:=(d.filter λc=>c.ev.bd==e&&c.ev.agg==b).drop (max f 0).toNat
 (own.take a,decide (a<own.length))
def ot(d:List ep)(a:Int)(b:Nat):List ep×Bool:=
 let c:=d.dropWhile λe=>decide (e.group<=a)
 (c.take b,decide (b<c.length))
def fB(b:aR)(a:jS):Int:=if a.agg<0\/a.key<0\/a.expect< -1 then 1 else jY b a.bd a.field a.op a.arg
def a_(b:jS)(a:Int)(c:List Int)(d:Int):Int×ah:=
 let no:ah:=⟨0,0,0,[],0,0,0,0,0,0⟩
 if a<0\/(c.length:Int)<=a\/d<0 then(1,no)else
 if fH c a=9223372036854775807\/d=9223372036854775807 then(13,no)else
 (0,⟨a,fH c a+1,d+1,jo c [],b.bd,b.agg,b.field,b.op,b.arg,b.key⟩)
def kV(f:aR)(d:aq)(j:bk)(b start:Int)(a:jS):ah×Bool×Int:=
 let no:ah:=⟨0,0,0,[],0,0,0,0,0,0⟩
 let g:=fB f a
 if g≠0 then(no,false,g)else
 match d.keyed a.key with
 |some k=>(k,false,0)
 |none=>
  let h:=f.at a.bd
  let i:=j.state a.bd a.agg
  let c:=match i with
   |some l=>l.cells
   |none=>dG h
  if¬(a.expect= -1\/a.expect=(i.getD ⟨0,[]⟩).version)then(no,false,11)else
  if xL h c a.field a.op a.arg≠0 then(no,false,10)else
  let e:=a_ a b d.vec (max d.top start)
  (e.2,decide (e.1=0),e.1)
structure ef where
 p:jO
 rows:List (Int×ep)
def mG(a:jO)(b:ep)(arg:Int):Int:=
 if a.make=1 then b.count else if a.make=2 then pH (b.value+arg)else
 if a.make=5\/b.count=1/\(a.make=3\/a.make=4)then arg else
 if a.make=3 then min b.value arg else if a.make=4 then max b.value arg else 0
def ef.add(a:ef)(e:df)(d:Int):ef:=
 let c:=if a.p.group=1 then some e.ev.agg else if a.p.group=2 then some e.ev.arg else if a.p.group=3 then some d else none
 match c with
 |none=>a
 |some c=>
  if e.void||e.ev.bd !=a.p.bd||e.ev.field !=a.p.field then a else
  let b:=(ay a.rows c).getD ⟨0,0,0⟩
  let b:ep:=⟨c,b.value,pH (b.count+1)⟩
  {a with rows:=aJ a.rows c ⟨c,mG a.p b e.ev.arg,b.count⟩}
def ng(a:ep):List ep->List ep
 |[]=>[a]
 |y::b=>if a.group<y.group then a::y::b else y::ng a b
def ef.list(a:ef):List ep:=(a.rows.map (·.2)).foldr ng []
structure kL where
 view:bk
 rows:List ef
def kL.new(a:aR):kL:=⟨bk.new a,a.projs.map λb=>⟨b,[]⟩⟩
def tI(a:Option mV)(b:jO):Int:=match a with
 |none=>0
 |some a=>((a.cells[b.GO.toNat]?).map (·.n)).getD 0
def kL.add(c:kL)(a:ah):kL:=
 let b:=c.view.add a
 let e:=b.2.state a.bd a.agg
 ⟨b.2,c.rows.map λd=>d.add b.1 (tI e d.p)⟩
def eN(a:aR)(b:List ah):kL:=b.foldl kL.add (kL.new a)
def dQ(a:Nat)(b:List ah)(c:ah):Bool×List ah:=
 if a<=b.length\/b.any (λd=>aO d==aO c)then(false,b)else(true,dO c b)
def cP(a:aq):List ah->Option (ah×aq×List ah)
 |[]=>none
 |e::c=>if(a.add e).1=0 then some (e,(a.add e).2,c)else(cP a c).map λb=>(b.1,b.2.1,e::b.2.2)
def cW:Nat->aq->List ah->List ah->List ah×List ah
 |0,c,b,a=>(a,b)
 |k+1,c,b,a=>match cP c b with
  |none=>(a,b)
  |some (d,e,f)=>cW k e f (a++[d])
def bI(b:aq)(a:List ah):List ah×List ah:=
 let a:=a.filter λc=>(b.get (aO c)).isNone
 cW (a.length+1) b a []
structure dz where
 kind:Int
 ck:Int
 qF:Int
 vec:List Int
 events:List ah
def iu(a:dz)(b:Int):Int:=if 0<a.events.length then 8 else if(a.vec.length:Int)≠b then 1 else if a.vec.any (λc=>decide (c<0))then 1 else 0
def ez(b:dz)(c:Nat)(a:Int):Int:=if 0<b.vec.length then 8 else if b.events.length<1\/a<(b.events.length:Int)then 3 else cO (λd=>dh d c) b.events
def dJ(m:dz)(c:Nat)(b:Int):Int:=
 let a:=!(decide (0<=m.ck)&&decide (m.ck<c))|| !(decide (0<=m.qF)&&decide (m.qF<c))||m.ck==m.qF
 if m.kind=3 then(if a then 1 else ez m c b)
 else if m.kind=1\/m.kind=2\/m.kind=4 then(if a then 1 else iu m c)
 else 2
def lj(a:aq)(b c:Int):dz:=⟨1,b,c,a.vec,[]⟩
def yN(a:aq)(b c:Int):dz:=⟨4,b,c,a.vec,[]⟩
def mE(e:aq)(a:Int)(b:dz)(c:Int):List dz:=
 if b.kind≠1/\b.kind≠2 then []else
 let f:=e.missing b.vec (max 1 (min c 32))
 let h:List dz:=if 0<f.length then [⟨3,a,b.ck,[],f⟩]else []
 let g:=sk b.vec e.vec
 let i:List dz:=if b.kind=1/\(g=2\/g=3)then [⟨2,a,b.ck,e.vec,[]⟩]else []
 let d:=h++i
 if d.isEmpty then [yN e a b.ck]else d
def HF:(if m<e then m else e)=min e m:=oM
def Uc{D:Nat->Prop}(k:Row aP 8 b D d a s):
  Calls ZQ 200 #[.slice d a c,.func (.func 199) #[] #[]] b (Ok λi e=>i= .bool (s.any λf=>decide (f<0))/\b=e):=by
 have x:=k.len;have r:=k.d_;unfold aQ at r;refine jT (PC.ok (φ:=λi e=>(∃h:Int,i= QH h/\(0<=h↔(s.any λf=>decide (f<0))=true))/\b=e) (lD ⟨λn h e=>∃g:Nat,h=g/\g<=a/\n=a-g/\((s.take g).any λf=>decide (f<0))=false/\b=e,
  ⟨_,0,rfl,Qj _,rfl,sM,rfl⟩,?_⟩) ?_)
 ·rintro n h _ _ ⟨g,rfl,y,rfl,l,rfl⟩
  refine al.dec (λt=>?_) (λt=>?_)
  ·obtain⟨u,m,o,rfl,p,_,v⟩:=k.mh (i:=g) oM
   refine⟨u,m,rfl,oM,oM,_,v,199,_,_,rfl,kR,PC.ok (φ:=λi e=>i= .bool (decide (o<0))/\b=e) (Az (Ok.mk ⟨rfl,rfl⟩)) ?_⟩;rintro _ _ ⟨rfl,rfl⟩;refine⟨_,rfl,al.dec (λq=>?_) (λq=>?_)⟩
   ·exact Ok.mk ⟨⟨_,rfl,λ_=>List.any_eq_true.2 ⟨o,QZ p,by simpa using q⟩,λ_=>oM⟩,rfl⟩
   ·refine⟨_,oM,g+1,an oM,oM,rfl,?_,rfl⟩
    rw[Qw,p,List.any_append,l];simp;omega
  ·rw[Qz oM]at l
   exact Ok.mk ⟨⟨_,rfl,λj=>oM,λj=>by rw[l]at j;cases j⟩,rfl⟩
 ·rintro _ _ ⟨⟨h,rfl,w⟩,rfl⟩
  exact⟨_,rfl,Ok.mk ⟨by cases j:(s.any λf=>decide (f<0))<;>simp[j]at w⊢<;>omega,rfl⟩⟩
def zj{D:Nat->Prop}(n:Row aP 8 b D d a l.aK)(J:i<4611686018427387904):
  Calls ZQ 140 #[.agg (aE l d a c).toArray,QH (i:Int)] b (Ok λk m=>k= QH (dh l i)/\ai b m):=by
 have K:=n.len;have y:=n.d_;unfold aQ at y;refine Ca (PA.mk λz o L h=>⟨_,ae h rfl,?_⟩);have g:(l.origin<0\/(i:Int)<=l.origin\/min l.seq l.aA<1\/min l.agg l.key<0\/l.aK.length≠i\/l.aK.any (λq=>decide (q<0))=true)->Ok (λk m=>k= QH (dh l i)/\ai b m) (.returned (QH 1)) z:=λe=>by
  refine Ok.mk ⟨?_,o⟩;unfold dh;rw[if_pos e]
 refine al.dec (λe=>g (.inl e)) λM=>⟨_,ae h rfl,al.dec (λe=>g (.inr (.inl e))) λN=>⟨_,ae h rfl,_,ae h rfl,?_⟩⟩
 rw[HF];refine al.dec (λe=>g (.inr (.inr (.inl e)))) λO=>⟨_,ae h rfl,_,ae h rfl,?_⟩
 rw[HF];refine al.dec (λe=>g (.inr (.inr (.inr (.inl e))))) λP=>⟨_,_,_,ae h rfl,al.dw (λe=>g (.inr (.inr (.inr (.inr (.inl oM)))))) λQ=>⟨_,_,_,ae h rfl,PC.ok (Uc (n.af o)) ?_⟩⟩
 rintro _ _ ⟨rfl,rfl⟩;refine⟨_,rfl,al.mk (λe=>g (.inr (.inr (.inr (.inr (.inr e)))))) λA=>⟨_,_,_,ae h rfl,_,ae h rfl,?_⟩⟩;obtain⟨B,r,C,rfl,E,R,F⟩:=(n.af o).mh (i:=l.origin.toNat) oM;have u:¬(l.origin<0\/(i:Int)<=l.origin\/min l.seq l.aA<1\/min l.agg l.key<0\/l.aK.length≠i\/l.aK.any (λq=>decide (q<0))=true):=by
  rw[A];simp only[Bool.false_eq_true,or_false,not_or];omega
 refine⟨B,r,rfl,oM,oM,_,F,_,ae h rfl,λv w=>?_⟩;have H:ai b v:=o.then w.keep;have j:=(bE.keep (S:=λ_=>False) w).get h id;have x:l.aK.getD l.origin.toNat 0=C:=by rw[QQ,E];rfl
 have f:∀s:Int,dh l i=s->Ok (λk m=>k= QH (dh l i)/\ai b m) (.returned (QH s)) v:=λs e=>Ok.mk ⟨by rw[e],H⟩;refine al.dw (λe=>f 9 (by unfold dh;rw[if_neg u,x,if_pos e])) λI=>⟨_,ae j rfl,?_⟩
 have t:dh l i=if l.op<1\/5<l.op then 2 else if min l.bd l.field<0\/8<=l.bd\/8<=l.field then 8 else 0:=by
  unfold dh;rw[if_neg u,x,if_neg (by simpa using I)]
 refine al.dec (λe=>f 2 (by rw[t,if_pos (.inl e)])) λS=>⟨_,ae j rfl,al.dec (λe=>f 2 (by rw[t,if_pos (.inr e)])) λT=>⟨_,ae j rfl,_,ae j rfl,?_⟩⟩
 rw[HF];have p:dh l i=if min l.bd l.field<0\/8<=l.bd\/8<=l.field then 8 else 0:=by rw[t,if_neg oM]
 refine al.dec (λe=>f 8 (by rw[p,if_pos (.inl e)])) λU=>⟨_,ae j rfl,al.dec (λe=>f 8 (by rw[p,if_pos (.inr (.inl e))])) λV=>⟨_,ae j rfl,al.dec (λe=>f 8 (by rw[p,if_pos (.inr (.inr e))])) λW=>f 0 (by rw[p,if_neg oM])⟩⟩
end Go.Proofs.YtfchlbaidamodaaGreatDoor
namespace Go.ax
open Go
def Yx(b a:Value):Bool:=match b with
 | .int c _=>match a with
  | .int d _=>decide (d=c)
  |_=>false
 | .bool _=>match a with
  | .bool _=>true
  |_=>false
 | .string _=>match a with
  | .string _=>true
  |_=>false
 | .slice _ _ _=>match a with
  | .slice _ _ _=>true
  |_=>false
 | .pointer _=>match a with
  | .pointer _=>true
  |_=>false
 | .map _=>match a with
  | .map _=>true
  |_=>false
 |_=>true
def WR:List Value->List Value->Bool
 |[],[]=>true
 |z::a,b::c=>Yx z b&&WR a c
 |_,_=>false
def TF(z a:Value):Bool:=match z with
 | .agg b=>match a with
  | .agg cs=>WR b.toList cs.toList
  |_=>false
 |z=>Yx z a
variable{r:Array Value}{a c:Nat}{F:Nat×Nat}{h:Program}{g q:TypeId}{c3 w:Value}{S:Value->Prop}{b:World}{y:World->Prop}
def Tl{φ:Value->Prop}(b:Yx w c3=true)(a:φ c3):Rj w φ:=by
 unfold Rj
 cases w<;>cases c3<;>simp[Yx]at b<;>first
  |exact⟨_,a⟩
  |exact⟨_,_,_,a⟩
  |(subst b;exact⟨_,a⟩)
def NH:∀{b cs:List Value} {φ:List Value->Prop},WR b cs=true->φ cs->Sw b φ
 |[],[],φ,_,c=>c
 |[],_::_,φ,a,_=>by simp[WR]at a
 |_::_,[],φ,a,_=>by simp[WR]at a
 |z::b,d::f,φ,a,c=>by
  simp only[WR,QK]at a;exact Tl (φ:=λd=>Sw b λe=>φ (d::e)) a.1 (NH (φ:=λe=>φ (d::e)) a.2 c)
def cu(a:TF w c3=true)(b:S c3):yY w S:=by
 unfold yY;split
 ·rename_i e
  cases c3<;>simp[TF]at a
  rename_i cs;exact NH (φ:=λc=>S (.agg c.toArray)) a (by simpa using b)
 ·rename_i d
  refine Tl ?_ b
  cases w<;>first|exact a|exact absurd rfl (d _)
def zV{d:World}{e:Addr}{f:Prop}:∀{cs:List Value} {a:Nat},(∀b v,cs[b]? =some v->d.cell? (e.add (a+b))=some v)->f->iU d e a cs f
 |[],a,_,c=>c
 |v::j,a,g,c=>⟨g 0 v rfl,zV (λb h i=>by have:=g (b+1) h (by simpa using i);rwa [show a+1+b=a+(b+1) by omega]) c⟩
def jg(a:Program)(b:TypeId)(cs:List Value):Bool:=vg a b&&(match fe a b with
 | .agg c=>Nat.beq (mB a b) c.size&&WR c.toList cs
 |_=>false)&&Nat.beq cs.length (mB a b)&&cs.all Value.oneCell'
def NI{cs:List Value}(i:jg h g cs=true)(k:∀e f,cs[e]? =some f->b.cell? ⟨a,c+e,none⟩=some f)(l:S (.agg cs.toArray)):
  ow h g (.pointer (some ⟨a,c,none⟩)) b S:=by
 simp only[jg,QK]at i;obtain⟨⟨⟨m,d⟩,o⟩,p⟩:=i;unfold ow;simp only[m]
 revert d
 cases fe h g<;>simp only[Bool.false_eq_true,false_implies]
 rename_i q;intro d;simp only[QK]at d;simp only[d.1];exact NH (φ:=λj=>iU b ⟨a,c,none⟩ 0 j (S (.agg j.toArray))) d.2 (zV (λe f n=>by rw[Xz,Addr.add_lit];exact k e f n) l)
def aw{cs:List Value}(c:jg h g cs=true)(d:b.heap[a]? =some (.cells cs.toArray q F))(e:S (.agg cs.toArray)):
  ow h g (ZX a) b S:=NI c (λi j f=>ae d (by rw[Xz];simpa using f)) e
def Wr{cs:List Value}(f:jg h g cs=true)(i:b.heap[a]? =some (.cells r q F))(j:∀d e,cs[d]? =some e->r[c+d]? =some e)(k:S (.agg cs.toArray)):
  ow h g (.pointer (some ⟨a,c,none⟩)) b S:=NI f (λd e l=>ae i (j d e l)) k
def br{c d k:Nat}{es:List Value}(f:jg h g es=true)(i:es.length=k)(j:∀a,a<k->b.cell? ⟨c,d+a,none⟩=es[a]?)(l:S (.agg es.toArray)):
  ow h g (.pointer (some ⟨c,d,none⟩)) b S:=NI f (λa m e=>by rw[j a (by rw[<-i];exact(Qv.1 e).1)];exact e) l
def GI{d f:Nat}{i:TypeId}{j:World->Prop}:∀(c:List Value) (b:Nat) {a:World} {cs:Array Value},a.heap[d]? =some (.cells cs i (0,0))->f+b+c.length<=cs.size->
  (∀e,aj (·=d) a e->e.heap.size=a.heap.size->e.heap[d]? =some (.cells (DX cs (f+b) c) i (0,0))->j e)->jG ⟨d,f,none⟩ b c a j
 |[],b,a,cs,g,k,h=>h a (aj.refl _) rfl g
 |v::c,b,a,cs,g,k,h=>by
  unfold jG;rw[Addr.add_lit];rw[Xq]at k;exact PS.mk g oM λs l m n=>GI c (b+1) n (by simp;omega) λo p q r=>h o (l.then p) (q.trans m) r
def WS{cs:List Value}(e:jg h g cs=true)(f:b.heap[a]? =some (.cells r q (0,0)))(o:c+cs.length<=r.size)(i:∀d,aj (·=a) b d->d.heap.size=b.heap.size->d.heap[a]? =some (.cells (DX r c cs) q (0,0))->y d):xJ h g (.pointer (some ⟨a,c,none⟩)) (.agg cs.toArray) b y:=by
 simp only[jg,QK]at e;obtain⟨⟨⟨j,p⟩,k⟩,l⟩:=e;unfold xJ;have m:Nat.beq cs.toArray.size (mB h g)=true:=by simpa using k
 have n:cs.toArray.toList.all Value.oneCell'=true:=by simpa using l
 simp only[j,m,n];exact GI cs 0 f oM i
def aD{cs:List Value}(d:jg h g cs=true)(e:b.heap[a]? =some (.cells r q (0,0)))(f:cs.length=r.size)(i:∀c,aj (·=a) b c->c.heap.size=b.heap.size->c.heap[a]? =some (.cells cs.toArray q (0,0))->y c):xJ h g (ZX a) (.agg cs.toArray) b y:=
 WS d e oM λc j k l=>i c j k (by rw[l,GH f])
end Go.ax
namespace Go.Proofs
open Go.Shelf
def Tryz.QP:Go.Shelf.Ren:=⟨λ|6=>149|15=>207|14=>206|28=>275|29=>276|20=>267|21=>268|22=>269|23=>270|24=>271|25=>272|26=>273|27=>274|46=>306|47=>307|48=>308|49=>309|50=>310|57=>330|n=>n,λ|22=>50|24=>59|25=>249|3=>3|39=>311|0=>0|53=>357|55=>359|4=>4|46=>351|45=>350|50=>193|5=>5|9=>9|66=>386|70=>379|76=>406|77=>407|n=>n,λ|n=>n⟩
def Tryz.Vz:Go.Proofs.SlLaysF0.n6 Tryz.prog Tryz.QP:={
 mixed:=by kernel_rfl
 f6:=⟨Tryz.f149.name,by decide,Tryz.func149.trans (congrArg some (by kernel_rfl))⟩
 f14:=⟨Tryz.f206.name,by decide,Tryz.func206.trans (congrArg some (by kernel_rfl))⟩
 f15:=Tryz.func207.trans (congrArg some (by kernel_rfl))
 f20:=⟨Tryz.f267.name,by decide,Tryz.func267.trans (congrArg some (by kernel_rfl))⟩
 f21:=⟨Tryz.f268.name,by decide,Tryz.func268.trans (congrArg some (by kernel_rfl))⟩
 f22:=⟨Tryz.f269.name,by decide,Tryz.func269.trans (congrArg some (by kernel_rfl))⟩
 f23:=⟨Tryz.f270.name,by decide,Tryz.func270.trans (congrArg some (by kernel_rfl))⟩
 f24:=⟨Tryz.f271.name,by decide,Tryz.func271.trans (congrArg some (by kernel_rfl))⟩
 f25:=⟨Tryz.f272.name,by decide,Tryz.func272.trans (congrArg some (by kernel_rfl))⟩
 f26:=⟨Tryz.f273.name,by decide,Tryz.func273.trans (congrArg some (by kernel_rfl))⟩
 f27:=⟨Tryz.f274.name,by decide,Tryz.func274.trans (congrArg some (by kernel_rfl))⟩
 f28:=Tryz.func275.trans (congrArg some (by kernel_rfl))
 f29:=Tryz.func276.trans (congrArg some (by kernel_rfl))
 f46:=⟨Tryz.f306.name,by decide,Tryz.func306.trans (congrArg some (by kernel_rfl))⟩
 f47:=Tryz.func307.trans (congrArg some (by kernel_rfl))
 f48:=Tryz.func308.trans (congrArg some (by kernel_rfl))
 f49:=⟨Tryz.f309.name,by decide,Tryz.func309.trans (congrArg some (by kernel_rfl))⟩
 f50:=⟨Tryz.f310.name,by decide,Tryz.func310.trans (congrArg some (by kernel_rfl))⟩
 f57:=⟨Tryz.f330.name,by decide,Tryz.func330.trans (congrArg some (by kernel_rfl))⟩
 t0:=Tryz.underlying0
 a0:=Tryz.isAgg0
 z0:=Tryz.sizeOf0
 v0:=Tryz.zeroValue0
 t3:=Tryz.underlying3
 a3:=Tryz.isAgg3
 z3:=Tryz.sizeOf3
 v3:=Tryz.zeroValue3
 t4:=Tryz.underlying4
 a4:=Tryz.isAgg4
 z4:=Tryz.sizeOf4
 v4:=Tryz.zeroValue4
 t5:=Tryz.underlying5
 a5:=Tryz.isAgg5
 z5:=Tryz.sizeOf5
 v5:=Tryz.zeroValue5
 t9:=Tryz.underlying9
 a9:=Tryz.isAgg9
 z9:=Tryz.sizeOf9
 v9:=Tryz.zeroValue9
 t22:=Tryz.underlying50
 a22:=Tryz.isAgg50
 z22:=Tryz.sizeOf50
 v22:=Tryz.zeroValue50
 t25:=Tryz.underlying249
 a25:=Tryz.isAgg249
 z25:=Tryz.sizeOf249
 v25:=Tryz.zeroValue249
 t39:=Tryz.underlying311
 a39:=Tryz.isAgg311
 z39:=Tryz.sizeOf311
 v39:=Tryz.zeroValue311
 t45:=Tryz.underlying350
 a45:=Tryz.isAgg350
 z45:=Tryz.sizeOf350
 v45:=Tryz.zeroValue350
 t46:=Tryz.underlying351
 a46:=Tryz.isAgg351
 z46:=Tryz.sizeOf351
 v46:=Tryz.zeroValue351
 t50:=Tryz.underlying193
 a50:=Tryz.isAgg193
 z50:=Tryz.sizeOf193
 v50:=Tryz.zeroValue193
 t53:=Tryz.underlying357
 a53:=Tryz.isAgg357
 z53:=Tryz.sizeOf357
 v53:=Tryz.zeroValue357
 t55:=Tryz.underlying359
 a55:=Tryz.isAgg359
 z55:=Tryz.sizeOf359
 v55:=Tryz.zeroValue359
 t66:=Tryz.underlying386
 a66:=Tryz.isAgg386
 z66:=Tryz.sizeOf386
 v66:=Tryz.zeroValue386
 t70:=Tryz.underlying379
 a70:=Tryz.isAgg379
 z70:=Tryz.sizeOf379
 v70:=Tryz.zeroValue379
 t76:=Tryz.underlying406
 a76:=Tryz.isAgg406
 z76:=Tryz.sizeOf406
 v76:=Tryz.zeroValue406
 t77:=Tryz.underlying407
 a77:=Tryz.isAgg407
 z77:=Tryz.sizeOf407
 v77:=Tryz.zeroValue407}
def Tryz.QR:Go.Shelf.Ren:=⟨λ|6=>395|15=>207|14=>397|28=>275|29=>276|20=>398|21=>399|22=>400|23=>401|24=>402|25=>403|26=>404|27=>405|46=>406|47=>307|48=>308|49=>407|50=>408|57=>409|n=>n,λ|22=>44|24=>268|25=>451|3=>3|39=>311|0=>0|53=>357|55=>359|4=>4|46=>351|45=>350|50=>193|5=>5|9=>9|66=>386|70=>379|76=>406|77=>407|n=>n,λ|n=>n⟩
def Tryz.VA:Go.Proofs.SlLaysF0.n6 Tryz.prog Tryz.QR:={
 mixed:=by kernel_rfl
 f6:=⟨Tryz.f395.name,by decide,Tryz.func395.trans (congrArg some (by kernel_rfl))⟩
 f14:=⟨Tryz.f397.name,by decide,Tryz.func397.trans (congrArg some (by kernel_rfl))⟩
 f15:=Tryz.func207.trans (congrArg some (by kernel_rfl))
 f20:=⟨Tryz.f398.name,by decide,Tryz.func398.trans (congrArg some (by kernel_rfl))⟩
 f21:=⟨Tryz.f399.name,by decide,Tryz.func399.trans (congrArg some (by kernel_rfl))⟩
 f22:=⟨Tryz.f400.name,by decide,Tryz.func400.trans (congrArg some (by kernel_rfl))⟩
 f23:=⟨Tryz.f401.name,by decide,Tryz.func401.trans (congrArg some (by kernel_rfl))⟩
 f24:=⟨Tryz.f402.name,by decide,Tryz.func402.trans (congrArg some (by kernel_rfl))⟩
 f25:=⟨Tryz.f403.name,by decide,Tryz.func403.trans (congrArg some (by kernel_rfl))⟩
 f26:=⟨Tryz.f404.name,by decide,Tryz.func404.trans (congrArg some (by kernel_rfl))⟩
 f27:=⟨Tryz.f405.name,by decide,Tryz.func405.trans (congrArg some (by kernel_rfl))⟩
 f28:=Tryz.func275.trans (congrArg some (by kernel_rfl))
 f29:=Tryz.func276.trans (congrArg some (by kernel_rfl))
 f46:=⟨Tryz.f406.name,by decide,Tryz.func406.trans (congrArg some (by kernel_rfl))⟩
 f47:=Tryz.func307.trans (congrArg some (by kernel_rfl))
 f48:=Tryz.func308.trans (congrArg some (by kernel_rfl))
 f49:=⟨Tryz.f407.name,by decide,Tryz.func407.trans (congrArg some (by kernel_rfl))⟩
 f50:=⟨Tryz.f408.name,by decide,Tryz.func408.trans (congrArg some (by kernel_rfl))⟩
 f57:=⟨Tryz.f409.name,by decide,Tryz.func409.trans (congrArg some (by kernel_rfl))⟩
 t0:=Tryz.underlying0
 a0:=Tryz.isAgg0
 z0:=Tryz.sizeOf0
 v0:=Tryz.zeroValue0
 t3:=Tryz.underlying3
 a3:=Tryz.isAgg3
 z3:=Tryz.sizeOf3
 v3:=Tryz.zeroValue3
 t4:=Tryz.underlying4
 a4:=Tryz.isAgg4
 z4:=Tryz.sizeOf4
 v4:=Tryz.zeroValue4
 t5:=Tryz.underlying5
 a5:=Tryz.isAgg5
 z5:=Tryz.sizeOf5
 v5:=Tryz.zeroValue5
 t9:=Tryz.underlying9
 a9:=Tryz.isAgg9
 z9:=Tryz.sizeOf9
 v9:=Tryz.zeroValue9
 t22:=Tryz.underlying44
 a22:=Tryz.isAgg44
 z22:=Tryz.sizeOf44
 v22:=Tryz.zeroValue44
 t25:=Tryz.underlying451
 a25:=Tryz.isAgg451
 z25:=Tryz.sizeOf451
 v25:=Tryz.zeroValue451
 t39:=Tryz.underlying311
 a39:=Tryz.isAgg311
 z39:=Tryz.sizeOf311
 v39:=Tryz.zeroValue311
 t45:=Tryz.underlying350
 a45:=Tryz.isAgg350
 z45:=Tryz.sizeOf350
 v45:=Tryz.zeroValue350
 t46:=Tryz.underlying351
 a46:=Tryz.isAgg351
 z46:=Tryz.sizeOf351
 v46:=Tryz.zeroValue351
 t50:=Tryz.underlying193
 a50:=Tryz.isAgg193
 z50:=Tryz.sizeOf193
 v50:=Tryz.zeroValue193
 t53:=Tryz.underlying357
 a53:=Tryz.isAgg357
 z53:=Tryz.sizeOf357
 v53:=Tryz.zeroValue357
 t55:=Tryz.underlying359
 a55:=Tryz.isAgg359
 z55:=Tryz.sizeOf359
 v55:=Tryz.zeroValue359
 t66:=Tryz.underlying386
 a66:=Tryz.isAgg386
 z66:=Tryz.sizeOf386
 v66:=Tryz.zeroValue386
 t70:=Tryz.underlying379
 a70:=Tryz.isAgg379
 z70:=Tryz.sizeOf379
 v70:=Tryz.zeroValue379
 t76:=Tryz.underlying406
 a76:=Tryz.isAgg406
 z76:=Tryz.sizeOf406
 v76:=Tryz.zeroValue406
 t77:=Tryz.underlying407
 a77:=Tryz.isAgg407
 z77:=Tryz.sizeOf407
 v77:=Tryz.zeroValue407}
def Tryz.NG:Go.Shelf.Ren:=⟨λ|5=>298|7=>329|n=>n,λ|23=>286|25=>3|3=>268|4=>4|20=>20|n=>n,λ|n=>n⟩
def Tryz.Ws:Go.Proofs.SlLaysW.n5 Tryz.prog Tryz.NG:={
 mixed:=by kernel_rfl
 f5:=⟨Tryz.f298.name,by decide,Tryz.func298.trans (congrArg some (by kernel_rfl))⟩
 f7:=Tryz.func329.trans (congrArg some (by kernel_rfl))
 t4:=Tryz.underlying4
 a4:=Tryz.isAgg4
 z4:=Tryz.sizeOf4
 v4:=Tryz.zeroValue4
 t20:=Tryz.underlying20
 a20:=Tryz.isAgg20
 z20:=Tryz.sizeOf20
 v20:=Tryz.zeroValue20
 t23:=Tryz.underlying286
 a23:=Tryz.isAgg286
 z23:=Tryz.sizeOf286
 v23:=Tryz.zeroValue286}
end Go.Proofs

import Derived.Test.YtjgjkeponbeekaaGreatDoorKj11
import Derived.RangeFuncSeq
import Derived.RangeFuncLeaves
set_option maxHeartbeats 4000000
set_option linter.all false
set_option maxRecDepth 20000
namespace Go.aw
open Go
def pX(n:Int×Int):Value:=.agg #[WP n.1,WP n.2]
def Df(n:Int×Int×Int):Value:=.agg #[WP n.1,WP n.2.1,WP n.2.2]
structure KC (P:Program) (t ti:TypeId):Prop where
 hu:P.underlying t=some (.struct (P.fieldsOf t))
 ui:P.underlying ti=some (.int .i64)
 hf:∃n1 n2,(P.fieldsOf t).toList.map (λf=>(f.name,f.type,f.offset))=[(n1,ti,0),(n2,ti,1)]/\n1≠ "_"/\n2≠ "_"
 hp:P.stoodInHeld t=false
 hm:P.eqGuardType P.depth t=false
 ag:uS P ti=false
variable{M b4 e r:Int}{X a1:Operand}{b:World}
section
variable {P:Program} {t ti:TypeId}
def KC.equalIn(a:KC P t ti)(e:Nat)(b c:Int×Int)(d:World):(Op.equalIn (e+2) t (pX b) (pX c)).run P d= .ok (b==c) d:=by
 obtain⟨v,w,n,f,g⟩:=a.hf;unfold pX;rw[run_equalIn_struct d (e+1) _ _ _ a.hu a.hp];generalize(P.fieldsOf t).toList=h at n
 match h,n with
 |[x,y],n=>
  simp only[QY,List.map_nil,List.cons.injEq,Prod.mk.injEq,and_true]at n;obtain⟨⟨i,j,k⟩,l,m,o⟩:=n;have p:(isAgg ti).run P d= .ok false d:=dI _ _ _ a.ag ⟨_,a.ui⟩ d;have q:=run_equalIn_int (P:=P) d e ti .i64 .i64 b.1 c.1 a.ui;have r:=run_equalIn_int (P:=P) d e ti .i64 .i64 b.2 c.2 a.ui;unfold Op.eqFields Op.eqFields Op.eqFields;rw[i,j,k,l,m,o];have s:(b==c)=(b.1==c.1&&b.2==c.2):=rfl;rw[s]
  cases a:b.1==c.1<;>simp[part,p,q,r,a,f,g]
  by_cases u:b.2=c.2<;>simp[u]
 |[],n=>simp at n
 |[_],n=>simp at n
 |_::_::_::_,n=>simp at n
def KC.eql(n:KC P t ti){a c:ac}(d:a (.bool (e==M&&r==b4)) b):
  aK P (do eqGuard .eql t X a1 (.agg #[WP e,WP r]) (.agg #[WP M,WP b4]);binOp .eql t (.agg #[WP e,WP r]) (.agg #[WP M,WP b4]):Sem Value) b a c:=by
 refine aK.mk (v:=.bool (e==M&&r==b4)) ?_ d;rw[Sem.run_bind,run_eqGuard_agg b .eql _ X a1 _ _ n.hm,Result.andThen_ok,run_eql_struct];have:=n.equalIn 9998 (e,r) (M,b4) b;unfold pX at this;rw[this];rfl
def KC.neq(n:KC P t ti){a c:ac}(d:a (.bool (!(e==M&&r==b4))) b):
  aK P (do eqGuard .neq t X a1 (.agg #[WP e,WP r]) (.agg #[WP M,WP b4]);binOp .neq t (.agg #[WP e,WP r]) (.agg #[WP M,WP b4]):Sem Value) b a c:=by
 refine aK.mk (v:=.bool (!(e==M&&r==b4))) ?_ d;rw[Sem.run_bind,run_eqGuard_agg b .neq _ X a1 _ _ n.hm,Result.andThen_ok,run_neq_struct];have:=n.equalIn 9998 (e,r) (M,b4) b;unfold pX at this;rw[this];rfl
def KC.check(b:KC P t ti)(d:Nat)(g:Int×Int)(a:World)(e:Bool):(Instr.checkKey e (d+2) t (pX g)).run P a= .ok () a:=by
 obtain⟨u,v,n,h,i⟩:=b.hf;have j:(isAgg ti).run P a= .ok false a:=dI _ _ _ b.ag ⟨_,b.ui⟩ a;have k:∀f:Int,(Instr.checkKey e (d+1) ti (WP f)).run P a= .ok () a:=λf=>by simp[Instr.checkKey,run_underlying b.ui]
 unfold pX;have l:=b.hu;unfold Instr.checkKey;rw[Sem.run_bind,run_underlying l,Result.andThen_ok];generalize w:P.fieldsOf t=c at n;obtain⟨c⟩:=c
 match c,n with
 |[x,y],n=>
  simp only[QY,List.map_nil,List.cons.injEq,Prod.mk.injEq,and_true]at n;obtain⟨⟨m,o,p⟩,q,r,s⟩:=n;simp[m,o,p,q,r,s,part,j,k,h,i]
 |[],n=>simp at n
 |[_],n=>simp at n
 |_::_::_::_,n=>simp at n
def KC.key(n:KC P t ti):jo P t pX:=
 jo.struct n.hu (λa b=>rfl) (λa b c=>n.equalIn 9998 a b c) (λd c e=>n.check 9998 d c e) (λf a=>by unfold pX;simp[Instr.sameBits]) λ{a b} n=>by
  unfold pX at n;simp only[Value.agg.injEq,Array.mk.injEq,List.cons.injEq,Value.int.injEq,and_true,true_and]at n;exact Prod.ext n.1 n.2
structure wX (P:Program) (t t2 ti:TypeId):Prop where
 two:KC P t2 ti
 hu:P.underlying t=some (.struct (P.fieldsOf t))
 hf:∃n1 n2,(P.fieldsOf t).toList.map (λf=>(f.name,f.type,f.offset))=[(n1,t2,0),(n2,ti,2)]/\n1≠ "_"/\n2≠ "_"
 hp:P.stoodInHeld t=false
 ag:uS P t2=true
 sz:(P.info? t2).map (·.size)=some 2
variable {t2:TypeId}
def wX.Tp(b:wX P t t2 ti)(a:Int×Int×Int)(n:World):(part t2 #[WP a.1,WP a.2.1,WP a.2.2] 0).run P n= .ok (pX (a.1,a.2.1)) n:=by
 obtain⟨g,c,d⟩:=Option.map_eq_some_iff.1 b.sz;have e:(isAgg t2).run P n= .ok true n:=dI _ _ _ b.ag ⟨_,b.two.hu⟩ n;have f:(sizeOf t2).run P n= .ok 2 n:=by simp[sizeOf,typeInfo,c,d]
 unfold part;simp[e,f,pX]
def wX.equalIn(d:wX P t t2 ti)(f:Nat)(n a:Int×Int×Int)(b:World):(Op.equalIn (f+3) t (Df n) (Df a)).run P b= .ok (n==a) b:=by
 obtain⟨A,B,c,h,i⟩:=d.hf;have j:=d.Tp n b;have k:=d.Tp a b;have g:=d.two.equalIn f (n.1,n.2.1) (a.1,a.2.1) b;have m:=run_equalIn_int (P:=P) b (f+1) ti .i64 .i64 n.2.2 a.2.2 d.two.ui;have o:(isAgg ti).run P b= .ok false b:=dI _ _ _ d.two.ag ⟨_,d.two.ui⟩ b;unfold Df;rw[run_equalIn_struct b (f+2) _ _ _ d.hu d.hp];generalize(P.fieldsOf t).toList=p at c
 match p,c with
 |[C,E],c=>
  simp only[QY,List.map_nil,List.cons.injEq,Prod.mk.injEq,and_true]at c;obtain⟨⟨q,r,s⟩,u,v,w⟩:=c;unfold Op.eqFields Op.eqFields Op.eqFields;rw[q,r,s,u,v,w];have x:(n==a)=(((n.1,n.2.1):Int×Int)==(a.1,a.2.1)&&n.2.2==a.2.2):=by
   show(n.1==a.1&&(n.2.1==a.2.1&&n.2.2==a.2.2))=((n.1==a.1&&n.2.1==a.2.1)&&n.2.2==a.2.2);rw[Bool.and_assoc]
  rw[x];have y:∀e:Int×Int×Int,(part ti #[WP e.1,WP e.2.1,WP e.2.2] 2).run P b= .ok (WP e.2.2) b:=λe=>by simp[part,o]
  cases l:((n.1,n.2.1):Int×Int)==(a.1,a.2.1)with
  |false=>
   rw[l]at g;simp[j,k,g,h,i]
  |true=>
   rw[l]at g;simp[j,k,g,m,y,h,i]
   by_cases z:n.2.2=a.2.2<;>simp[z]
 |[],c=>simp at c
 |[_],c=>simp at c
 |_::_::_::_,c=>simp at c
def wX.check(c:wX P t t2 ti)(d:Nat)(b:Int×Int×Int)(n:World)(e:Bool):(Instr.checkKey e (d+3) t (Df b)).run P n= .ok () n:=by
 obtain⟨x,y,a,h,i⟩:=c.hf;have j:=c.Tp b n;have k:(isAgg ti).run P n= .ok false n:=dI _ _ _ c.two.ag ⟨_,c.two.ui⟩ n;have l:∀g:Int,(Instr.checkKey e (d+2) ti (WP g)).run P n= .ok () n:=λg=>by simp[Instr.checkKey,run_underlying c.two.ui]
 have m:=c.two.check d (b.1,b.2.1) n e;have o:(part ti #[WP b.1,WP b.2.1,WP b.2.2] 2).run P n= .ok (WP b.2.2) n:=by simp[part,k]
 unfold Df;have p:=c.hu;rw[show d+3=(d+2)+1 from rfl];unfold Instr.checkKey;rw[Sem.run_bind,run_underlying p,Result.andThen_ok];generalize z:P.fieldsOf t=f at a;obtain⟨f⟩:=f
 match f,a with
 |[A,B],a=>
  simp only[QY,List.map_nil,List.cons.injEq,Prod.mk.injEq,and_true]at a;obtain⟨⟨q,r,s⟩,u,v,w⟩:=a;simp[q,r,s,u,v,w,j,o,m,l,h,i]
 |[],a=>simp at a
 |[_],a=>simp at a
 |_::_::_::_,a=>simp at a
def wX.key(n:wX P t t2 ti):jo P t Df:=
 jo.struct n.hu (λa b=>rfl) (λa b c=>n.equalIn 9997 a b c) (λd c e=>n.check 9997 d c e) (λf a=>by unfold Df;simp[Instr.sameBits]) λ{a b} n=>by
  unfold Df at n;simp only[Value.agg.injEq,Array.mk.injEq,List.cons.injEq,Value.int.injEq,and_true,true_and]at n;exact Prod.ext n.1 (Prod.ext n.2.1 n.2.2)
end
end Go.aw
namespace Go.Proofs.YtjgjkeponbeekaaGreatDoor
open Go.aw
abbrev FO:Int×Int->Value:=pX
def Nd:KC LL 46 3:=⟨kR,kR,⟨ "Origin", "Seq",kR,dC,dC⟩,kR,kR,kR⟩
def YC:jo LL 46 FO:=Nd.key
abbrev sN:ah:=⟨0,0,0,[],0,0,0,0,0,0⟩
abbrev kU(n:ah)(P:bc)(a b:Nat):Value:=.agg (aI n P a b).toArray
def Tg:mZ LL 182 46 63 (kU sN none 0 0):=⟨kR,kR⟩
def lz{c:World}{D:UK}:∀{n:List Int} {cs:List Value},bY aP c D n cs↔cs=ints n/\∀x∈n,aM x
 |[],cs=>by simp[bY,ints]
 |x::n,cs=>by
  constructor
  ·rintro⟨g,h,rfl,⟨rfl,d⟩,e⟩
   obtain⟨rfl,f⟩:=lz.1 e;exact⟨rfl,λa P=>by rcases Q2.1 P with rfl|P;exact d;exact f a P⟩
  ·rintro⟨rfl,b⟩
   exact⟨[WP x],ints n,rfl,⟨rfl,b x (QV ..)⟩,lz.2 ⟨rfl,λa P=>b a (QJ _ P)⟩⟩
variable{e:Int}{s:List Int}{E a c i q:Nat}{f:UK}{d:bc}{h:Program}{g:TypeId}{v:Value}{o t:ac}{b k:World}{y:ba}{l:ah}
def Th(P:aU aP g f b d a c s)(m:i<s.length)(o:aM e)(p:d=some ⟨q,E,none⟩)(h:∀n,aU aP g f n d a c (s.set i e)->aj (λq=>aG d=some q) b n->n.heap.size=b.heap.size->y n):PS b ⟨q,E+i,none⟩ (WP e) y:=by
 obtain⟨cs,D,r,t,u⟩:=P.body;obtain⟨rfl,j⟩:=lz.1 t;refine r.set (m:=i) (by rw[j_];exact m) p λn v w l=>h n ⟨⟨_,D,v,lz.2 ⟨?_,?_⟩,u⟩,P.self,λq j=>by rw[l];exact P.aF q j⟩ w l
 ·unfold ints;rw[List.map_set]
 ·intro x k
  rcases List.mem_or_eq_of_mem_set k with k|rfl
  ·exact j x k
  ·exact o
def Vb(b:World)(D:UK)(c:Value)(n:ah):Prop:=∃P a d,c=kU n P a d/\Row aP 8 b D P a n.aN/\n.Ok
def Vb.keep{S D:UK}(P:Vb b D v l)(a:aj S b k)(c:∀n,D n->¬S n):Vb k D v l:=by
 obtain⟨d,e,f,g,h,i⟩:=P;exact⟨d,e,f,g,h.keep a c,i⟩
def Vb.mono{D n:UK}(a:Vb b D v l)(c:∀P,D P->n P):Vb b n v l:=by
 obtain⟨d,e,f,g,h,i⟩:=a;exact⟨d,e,f,g,h.mono c,i⟩
def CN:sN.Ok:=by constructor<;>simp[aM]
def nC{D:UK}(h:Row aP 8 b D d a l.aN)(u:∀n,D n->n<b.heap.size):
  be 115 #[kU l d a c] b (Ok λv i=>∃d a c G,v=kU l d a c/\Row aP 8 i G d a l.aN/\(∀n,G n->b.heap.size<=n/\n<i.heap.size)/\ai b i):=by
 have w:=h.fh;have x:=h.len;refine zR (PA.mk λA o B e=>PA.mk λC f E j=>⟨_,_,_,ae (f.get e id) rfl,PC.ok (bS (h.af (o.then f)) λn P=>by have:=u n P;omega) ?_⟩);rintro _ F ⟨p,q,r,G,rfl,s,g,k⟩;have e:=g.get (f.get e id) id;have j:=g.get j id;refine⟨_,_,_,rfl,PS.mk e (by simp[aI]) λH m I y=>?_⟩;refine ar (cs:=aI l p q r) (bh _ _ _ _) y (aD (bh _ _ _ _) (m.get j oM) rfl λJ t K z=>ar (bh _ _ _ _) z (Ok.mk ⟨p,q,r,G,rfl,?_,?_,?_⟩))
 ·refine(((s.keep m λn P=>?_).keep t λn P=>?_).row (bytes:=8) dC (by rw[<-x];exact w))
  ·have:=k n P;omega
  ·have:=k n P;omega
 ·intro n P
  have:=k n P;have:=s.aF n P;omega
 ·have L:=g.size
  exact((aj.new ((o.then f).then g) m λn P=>.inr oM).new t λn P=>.inr oM)
structure Ti where
 a:bc
 n:Nat
 c:Nat
 r:Nat
 V:UK
 D:UK
 l:List ((Int×Int)×Value)
 L:List ((Int×Int)×ah)
structure sj (w:World) (p:Nat) (F:UK) (S:au) (q:Ti):Prop where
 at':w.heap[p]? =some (.cells #[.slice q.a q.n q.c,.map (some q.r),WP S.top] 184 (0,0))
 vec:aU aP 3 q.V w q.a q.n q.c S.vec
 map:bU w q.r FO q.l
 rel:fK (Vb w q.D) q.l q.L
 key:∀x∈q.L,x.1=bd x.2
 Yj:(q.L.map (·.2)).Perm S.l
 aF:∀b,F b->b<w.heap.size
 sub:∀b,b=p\/b=q.r\/q.V b\/q.D b->F b
 Yk:p≠q.r
 Xc:¬q.V p/\¬q.V q.r
 Yl:¬q.D p/\¬q.D q.r
 ZP:∀b,q.V b->¬q.D b
def cM(P:World)(a:Nat)(b:UK)(n:au):Prop:=n.OK/\∃c,sj P a b n c
section
variable {w w' w1:World} {p:Nat} {F T:UK} {S:au} {q:Ti}
def sj.keep(n:sj w p F S q)(a:aj T w w')(c:∀P,F P->¬T P):sj w' p F S q:=
 ⟨a.get n.at' (c p (n.sub p (.inl rfl))),n.vec.keep a λP b=>c P (n.sub P (.inr (.inr (.inl b)))),n.map.keep a (c _ (n.sub _ (.inr (.inl rfl)))),
  n.rel.mono λe f d=>d.keep a λP b=>c P (n.sub P (.inr (.inr (.inr b)))),n.key,n.Yj,λP b=>Qk (n.aF P b) a.size,n.sub,n.Yk,n.Xc,n.Yl,n.ZP⟩
def sj.af(n:sj w p F S q)(P:ai w w'):sj w' p F S q:=n.keep P λ_ _ n=>n
def cM.keep(n:cM w p F S)(a:aj T w w')(b:∀P,F P->¬T P):cM w' p F S:=⟨n.1,n.2.imp λq c=>c.keep a b⟩
def cM.af(n:cM w p F S)(P:ai w w'):cM w' p F S:=n.keep P λ_ _ n=>n
def cM.aF(P:cM w p F S):∀n,F n->n<w.heap.size:=P.2.elim λq a=>a.aF
def sj.tidy(n:sj w p F S q):Tidy q.L:=by
 have:=n.map.tidy;unfold Tidy at*;rw[<-n.rel.keys];exact this
def sj.len(n:sj w p F S q):q.n=S.n:=by rw[n.vec.len dC,S.bT]
def sj.Ym(n:sj w p F S q)(P:S.OK):Row aP 8 w q.V q.a q.n S.vec:=n.vec.row dC (by rw[S.bT];have:=P.n;unfold aR;omega)
def sj.look(P:sj w p F S q)(c:S.OK)(n:Int×Int):(an q.l n=none/\S.get n=none)\/∃a b,an q.l n=some a/\S.get n=some b/\Vb w q.D a b:=by
 rw[<-Kr c P.key P.Yj P.tidy n];exact P.rel.an n
def mK(n:cM w p F S):be 58 #[RK p] w (Ok (qH aP 3 w S.vec)):=by
 obtain⟨P,q,n⟩:=n;refine xv ⟨p,0,rfl,_,_,_,ae n.at' rfl,PC.ok (bS (n.Ym P) λa b=>n.vec.aF a b) ?_⟩;rintro _ i ⟨c,d,e,G,rfl,f,g,h⟩;exact⟨_,_,_,rfl,Ok.mk ⟨c,d,e,G,rfl,f,g,h⟩⟩
def HL(n:cM w p F S):be 133 #[RK p] w (Ok λP w'=>P= WP S.top/\w=w'):=by
 obtain⟨a,q,n⟩:=n;exact xy ⟨p,0,rfl,_,ae n.at' rfl,Ok.mk ⟨rfl,rfl⟩⟩
def Tj(r:cM w p F S){D:UK}(s:Row aP 8 w D d a l.aN)(he:l.Ok)(hn:l.aN.length=S.n){o:Nat}(ho:o<S.n):
  be 114 #[RK p,kU l d a c,WP (o:Int)] w (Ok λj w'=>j= .bool (S.m_ l o)/\ai w w'):=by
 obtain⟨t,q,r⟩:=r;have b1:=s.len;have hN:=t.n;refine vF (PA.mk λw1 h s1 L=>?_);have Z:=s.af h;obtain⟨u,v,f,ha,hx,-,hc⟩:=Z.nE (i:=o) oM;have M:l.aN.getD o 0=f:=by rw[QQ,hx];rfl
 refine⟨_,_,_,ae L rfl,u,v,ha,oM,oM,f,hc,al.eI (λx=>Ok.mk ⟨?_,h⟩) (λx=>?_)⟩
 ·unfold au.m_;simp only[M,x];rfl
 have y:=r.af h;have b:∀{z:Bool} {w':World},ai w w'->(match S.get (o,f)with
  |none=>false
  |some P=>decide (P.aB<l.aB)&&(List.range P.aN.length).all λi=>decide (P.aN.getD i 0<=l.aN.getD i 0))=z->Ok (λj w'=>j= .bool (S.m_ l o)/\ai w w') (.returned (.bool z)) w':=λ{z w'} hg hy=>by
  refine Ok.mk ⟨?_,hg⟩;unfold au.m_;simp only[M];rw[<-hy,show(f==0)=false by simpa using x]
  rfl
 refine⟨p,0,rfl,_,ae y.at' rfl,jG (enc:=FO) (k:=((o:Int),f)) Tg YC y.map ?_⟩;rcases y.look t (o,f)with⟨A,g⟩|⟨j,P,A,g,N,k,O,rfl,a0,b2⟩
 ·rw[A]
  refine cA (sK sN none 0 0) ⟨_,rfl,PA.mk λw2 B s2 C=>aD (bh sN none 0 0) C rfl λE H s3 I=>al.tt rfl (b (h.then ((B.then (aj.refl _)).new H λu hb=>.inr oM)) ?_)⟩;rw[g]
 ·rw[A]
  refine cA (sK P N k O) ⟨_,rfl,PA.mk λw2 B s2 C=>aD (bh P N k O) C rfl λE H s3 I=>al.ff rfl ?_⟩;have J:ai w1 E:=(B.then (aj.refl _)).new H λu hb=>.inr oM;have m:=h.then J;have Q:=J.get L id;have a1:=au.get_some g;have b3:P.aN.length=S.n:=by have:=nV (t.Yw P a1.1);omega
  refine⟨_,ae I rfl,_,ae Q rfl,al.dec (λhl=>b m ?_) (λhl=>?_)⟩
  ·rw[g]
   simp only[Bool.and_eq_false_iff,decide_eq_false_iff_not];left;omega
  have a2:=s.af m;have R:=a0.af J;have b6:=R.len;refine⟨_,_,_,ae I rfl,λT i w'=>∃n:Nat,i=n/\n<=k/\T=k-n/\(∀e,e<n->P.aN.getD e 0<=l.aN.getD e 0)/\E=w',⟨_,0,rfl,Qj _,rfl,λe K=>oM,rfl⟩,?_⟩;rintro T i _ _ ⟨n,rfl,hj,rfl,U,rfl⟩;refine al.dec (λb7=>?_) (λb8=>?_)
  ·obtain⟨b4,o4,V,a3,a4,-,a5⟩:=R.nE (i:=n) oM
   obtain⟨b5,o5,W,a6,a7,-,a8⟩:=a2.nE (i:=n) oM;have X:P.aN.getD n 0=V:=by rw[QQ,a4];rfl
   have Y:l.aN.getD n 0=W:=by rw[QQ,a7];rfl
   refine⟨b4,o4,a3,oM,oM,V,a5,_,_,_,ae Q rfl,b5,o5,a6,oM,oM,W,a8,al.dec (λa9=>b m ?_) (λb9=>?_)⟩
   ·rw[g]
    simp only[Bool.and_eq_false_iff];right;rw[List.all_eq_false];exact⟨n,by simp;omega,by rw[X,Y];simpa using a9⟩
   ·refine⟨_,oM,n+1,aq oM,oM,rfl,λe K=>?_,rfl⟩
    by_cases b0:e=n
    ·subst b0;rw[X,Y];omega
    ·exact U e oM
  ·refine b m ?_
   rw[g];simp only[QK,ZY,Zk];exact⟨oM,λe K=>U e (by simp at K;omega)⟩
def TJ(d:cM w p F S)(j:Int×Int):
  be 301 #[RK p,FO j] w (Ok λz w'=>∃b c e G,z= .tuple #[kU ((S.get j).getD sN) b c e,.bool (S.get j).isSome]/\Row aP 8 w' G b c ((S.get j).getD sN).aN/\(∀n,G n->w.heap.size<=n/\n<w'.heap.size)/\ai w w'):=by
 obtain⟨L,q,d⟩:=d;obtain⟨h,i⟩:=j;refine xL (PA.mk λw1 M s1 k=>PA.mk λA B s2 u=>λl C=>?_);have v:ai A l:=C.keep;have s3:l.heap.size=A.heap.size:=by rw[C.heap]
 have k:=v.get (B.get k id) id;have u:=v.get u id;have E:=(M.then B).then v;have x:=d.af E;have a2:=d.map.lt;have a3:=aA d.at';obtain⟨a,b,c,e,n,f,g,H,N,O⟩:∃(a:ah) (b:bc) (c e:Nat) (n:Bool),(an q.l (h,i)).getD (kU sN none 0 0)=kU a b c e/\(an q.l (h,i)).isSome=n/\(S.get (h,i)).getD sN=a/\(S.get (h,i)).isSome=n/\Row aP 8 l q.D b c a.aN:=by
  rcases x.look L (h,i)with⟨f,g⟩|⟨z,Q,f,g,R,T,U,rfl,V,a4⟩
  ·exact⟨sN,none,0,0,false,by rw[f];rfl,by rw[f];rfl,by rw[g];rfl,by rw[g];rfl,Row.nil _ _⟩
  ·exact⟨Q,R,T,U,true,by rw[f];rfl,by rw[f];rfl,by rw[g];rfl,by rw[g];rfl,V⟩
 have I:∀n,q.D n->n<w.heap.size:=λn P=>d.aF n (d.sub n (.inr (.inr (.inr P))));refine⟨λn=>n=l.heap.size,p,0,rfl,oM,_,ae x.at' rfl,oM,_,_,ae k rfl,ae k rfl,cA (sK a b c e) ⟨n,λw' W=>?_,PA.mk λw4 m s4 X=>⟨ai.keep m,aD (bh a b c e) X rfl λw5 o s5 Y=>⟨o,?_⟩⟩⟩⟩
 ·have:=eN Tg YC (x.map.keep W oM) (h,i) true
  rw[f,g]at this;exact this
 have Z:=(O.af m).keep o λn P hn=>by have:=I n P;omega
 refine ar (bh a b c e) Y (PC.ok (nC Z λn P=>by have:=I n P;omega) ?_);rintro _ w6 ⟨r,s,t,G,rfl,a0,J,y⟩;have a1:=y.get (o.get (m.get u id) oM) id;have z6:=y.size;refine cA (sK a r s t) ⟨rfl,aD (bh a r s t) a1 rfl λw7 K s7 g7=>ar (bh a r s t) g7 (Ok.mk ⟨r,s,t,G,by rw[H,N],?_,?_,?_⟩)⟩
 ·rw[H];exact a0.keep K λn P hn=>by have:=J n P;omega
 ·intro n P;have:=J n P;omega
 ·exact(((E.then m).new o λn P=>.inr oM).then y).new K λn P=>.inr oM
end
section
variable {w w' w1:World} {p:Nat} {F T:UK} {S:au} {q:Ti}
def Ei{S:au}:((List.range a).any λn=>!S.m_ l n)=false↔∀n,n<a->S.m_ l n=true:=by
 simp[List.any_eq_false]
def vj(b:cM w p F S){e:ah}{D:UK}(A:Row aP 8 w D d a e.aN)(hD:∀n,D n->n<w.heap.size/\¬F n)(he:e.Ok)(hl:S.l.length<4611686018427387904):
  be 74 #[RK p,kU e d a c] w (Ok λB w'=>B= WP (S.add e).1/\∃C,cM w' p C (S.add e).2/\cz F w C w'):=by
 have fR:=b;obtain⟨E,q,b⟩:=b;have hN:=E.n;have b2:=b.len;have j0:=aA b.at';have j1:=b.map.lt;have d5:=b.Ym E;have f:∀{no:Int} {w':World},ai w w'->S.add e=(no,S)->Ok (λB w'=>B= WP (S.add e).1/\∃C,cM w' p C (S.add e).2/\cz F w C w') (.returned (WP no)) w':=λ{no w'} hg ha=>by
  refine Ok.mk ⟨by rw[ha],F,?_,ai.keep hg,λn P=>.inl P⟩;rw[ha];exact fR.af hg
 refine xx (PA.mk λw1 k1 s1 g1=>λw2 d2=>?_);have k2:ai w1 w2:=d2.keep;have s2:w2.heap.size=w1.heap.size:=by rw[d2.heap]
 have N:=k1.then k2;have g2:=k2.get g1 id;have h5:=b.af N;refine ar (bh e d a c) g2 ⟨p,0,rfl,_,_,_,ae h5.at' rfl,PC.ok (yI (A.af N) (by rw[b2];omega)) ?_⟩;rintro _ w3 ⟨rfl,O⟩;rw[b2];refine⟨_,rfl,al.eK (λH=>f (N.then O) ?_) (λQ=>?_)⟩
 ·rw[au.add_def,Zx H]
 obtain⟨c1,c4,c3,c5,c6,c7,c8,c9,f0,j2⟩:=nV Q;obtain⟨o,m⟩:∃o:Nat,e.origin=o:=⟨e.origin.toNat,oM⟩
 have I:o<S.n:=oM
 intro w4 d4;have k4:ai w3 w4:=d4.keep;have s4:w4.heap.size=w3.heap.size:=by rw[d4.heap]
 have d6:=(N.then O).then k4;have z3:=O.size;have g4:=k4.get (O.get g2 id) id;have b3:=b.af d6;obtain⟨r,a5,n5,d8,n,l,J,h⟩:∃(r:ah) (d:bc) (a c:Nat) (n:Bool),(an q.l (bd e)).getD (kU sN none 0 0)=kU r d a c/\(an q.l (bd e)).isSome=n/\(S.get (bd e)).isSome=n:=by
  rcases b3.look E (bd e)with⟨l,J⟩|⟨B,a0,l,J,b8,n3,c3,rfl,j3,j4⟩
  ·exact⟨sN,none,0,0,false,by rw[l];rfl,by rw[l];rfl,by rw[J];rfl⟩
  ·exact⟨a0,b8,n3,c3,true,by rw[l];rfl,by rw[l];rfl,by rw[J];rfl⟩
 refine⟨λn=>n=w4.heap.size,p,0,rfl,oM,_,ae b3.at' rfl,oM,_,_,ae g4 rfl,ae g4 rfl,cA (sK r a5 n5 d8) ⟨n,λw' K=>?_,PA.mk λw5 k5 s5 g5=>⟨ai.keep k5,aD (bh r a5 n5 d8) g5 rfl λw6 k6 s6 g6=>⟨k6,?_⟩⟩⟩⟩
 ·have:=eN Tg YC (b3.map.keep K oM) (bd e) true
  rw[l,J]at this;exact this
 have R:ai w w6:=(d6.then k5).new k6 λn P=>.inr oM;have b4:=k6.get (k5.get g4 id) oM;have h6:=b.af R;refine al.mk (λs=>f R ?_) (λhf=>?_)
 ·rw[au.add_def,Zq (by simpa using Q),Zx (by rw[h,s])]
 obtain⟨c0,o8,x8,h7,d9,-,h8⟩:=(d5.af R).nE (i:=o) oM;have e0:x8=(S.Gt o:Int):=by rw[S.pM I]at d9;exact(XJ d9).symm
 subst e0;have j5:=S.SX o;refine⟨_,ae b4 rfl,p,0,rfl,_,_,_,ae h6.at' rfl,_,ae b4 rfl,c0,o8,h7,c1,oM,_,by rw[m];exact h8,λw7 d7=>?_⟩;have k7:ai w6 w7:=d7.keep;have s7:w7.heap.size=w6.heap.size:=by rw[d7.heap]
 have b5:=R.then k7;rw[aq oM];refine al.eK (λH=>f b5 ?_) (λe1=>?_)
 ·rw[au.add_def,Zq (by simpa using Q),Zq (by rw[h,hf];simp),Zx]
  rw[m,Qx,S.vo I];simpa using H
 have h9:=b.af b5;have i0:=k7.get b4 id;have c2:e.seq=S.vec.getD e.origin.toNat 0+1:=by rw[m,Qx,S.vo I];simpa using e1
 have j:∀{a1:Int×au},(if(List.range S.n).any λo=>!S.m_ e o then((9:Int),S)else(0,⟨S.n,dN e S.l⟩))=a1->S.add e=a1:=λ{a1} A=>by
  rw[au.add_def,Zq (by simpa using Q),Zq (by rw[h,hf];simp),Zq (by simpa using c2)];exact A
 refine⟨p,0,rfl,_,_,_,ae h9.at' rfl,λa3 i w'=>∃g:Nat,i=g/\g<=S.n/\a3=S.n-g/\(∀k,k<g->S.m_ e k=true)/\ai w7 w',⟨_,0,rfl,Qj _,rfl,λk s=>oM,aj.refl _⟩,?_⟩;rintro a3 i _ w8 ⟨g,rfl,hj,rfl,a4,T⟩;have U:=b5.then T;have e2:=T.get i0 id;have z8:=T.size;rw[b2];refine al.dec (λj6=>?_) (λj7=>?_)
 ·refine ar (bh e d a c) e2 (PC.ok (Tj (fR.af U) (A.af U) he oM (o:=g) oM) ?_)
  rintro _ w9 ⟨rfl,k9⟩;refine⟨_,rfl,al.not (al.mk (λK=>?_) (λK=>f (U.then k9) (j (Zx ?_))))⟩
  ·refine⟨_,oM,g+1,aq oM,oM,rfl,λk s=>?_,T.then k9⟩
   by_cases i1:k=g
   ·rw[i1];exact K
   ·exact a4 k oM
  ·rw[List.any_eq_true]
   exact⟨g,by simp;omega,by rw[K];rfl⟩
 ·have a6:=j (Zq (by rw[Bool.not_eq_true,Ei];intro k s;exact a4 k oM))
  intro e3 e4;have e5:ai w8 e3:=e4.keep;have j8:e3.heap.size=w8.heap.size:=by rw[e4.heap]
  have L:=U.then e5;have V:=e5.get e2 id;have e6:=b.af L;have i2:=(A.af L)
  refine⟨λn=>n=q.r,p,0,rfl,b.Yk,_,ae e6.at' rfl,oM,_,_,ae V rfl,ae V rfl,ar (bh e d a c) V (PC.ok (nC i2 λn P=>by have:=(hD n P).1;have:=L.size;omega) ?_)⟩;rintro _ i3 ⟨b7,b9,d0,G,rfl,e7,hG,W⟩;have a7:=L.then W;have X:=b.af a7;have i9:=L.size;refine cA (sK e b7 b9 d0) ⟨rfl,ai.keep W,dB (enc:=FO) (k:=bd e) Tg YC X.map λe8 e9 t j9=>⟨t,λf2 f4=>?_⟩⟩;have u:ai e8 f2:=f4.keep;have k0:f2.heap.size=e8.heap.size:=by rw[f4.heap]
  have a8:=u.get (t.get X.at' b.Yk) id;have a9:=u.get (t.get (W.get V id) oM) id;have b0:=(X.vec.keep t λn P e=>b.Xc.2 (e▸P)).af u;obtain⟨f5,f6,i4,a2,b1,-,f8⟩:=(b0.row (bytes:=8) dC (by rw[S.bT];unfold aR;omega)).nE (i:=o) oM;have d1:i4=(S.Gt o:Int):=by rw[S.pM I]at b1;exact(XJ b1).symm
  subst d1;refine⟨p,0,rfl,_,_,_,ae a8 rfl,_,ae a9 rfl,f5,f6,a2,c1,oM,_,by rw[m];exact f8,f5,f6,a2,c1,oM,?_⟩;rw[m,Qx,aq oM];refine Th b0 (by rw[S.bT];exact I) cw a2 λg0 g3 M l0=>λg7 g8=>?_;have v:ai g0 g7:=g8.keep;have l3:g7.heap.size=g0.heap.size:=by rw[g8.heap]
  have x:∀n,aG q.a=some n->q.V n:=λn P=>b.vec.self n P;have i5:¬aG q.a=some p:=λe=>b.Xc.1 (x p e);have i6:¬aG q.a=some w.heap.size:=λe=>by have:=b.vec.aF _ (x _ e);omega
  have b6:=v.get (M.get a8 i5) id;have g9:=v.get (M.get a9 i6) id;refine⟨p,0,rfl,_,ae b6 rfl,_,ae g9 rfl,p,0,rfl,PS.mk b6 sM λh3 Y l4 i7=>?_⟩;have l5:=W.size;have i8:¬aG q.a=some q.r:=λe=>b.Xc.2 (x _ e);refine Ok.mk ⟨by rw[a6],λn=>F n\/G n,?_,?_,?_⟩
  rotate_left
  ·have Z:aj F w h3:=((((ai.keep a7).then (t.mono λn _ P=>b.sub n (.inr (.inl P)))).then (ai.keep u)).then ((M.mono λn _ P=>b.sub n (.inr (.inr (.inl (x n P))))).then (ai.keep v))).then (Y.mono λn _ P=>b.sub n (.inl P))
   exact Z
  ·intro n P;rcases P with P|P
   ·exact .inl P
   ·exact .inr (by have:=hG n P;omega)
  have h4:=(au.AP E he).1;rw[a6]at h4⊢;have y:∀n,G n->n≠p/\n≠q.r/\¬q.V n:=λn P=>by
   have:=hG n P;refine⟨oM,oM,λhv=>?_⟩;have:=b.vec.aF n hv;omega
  refine⟨h4,⟨q.a,q.n,q.c,q.r,q.V,λn=>q.D n\/G n,aJ q.l (bd e) (kU e b7 b9 d0),aJ q.L (bd e) e⟩,?_,?_,?_,?_,?_,?_,?_,?_,b.Yk,b.Xc,?_,?_⟩
  ·have s:(if e.aB>S.top then e.aB else S.top)=max S.top e.aB:=by split<;>omega
   rw[i7,au.Vc,<-s];rfl
  ·rw[show au.vec ⟨S.n,dN e S.l⟩=S.vec.set o ((S.Gt o+1:Nat):Int) by rw[au.Vd S e m];simp]
   exact(g3.af v).keep Y λn P e=>b.Xc.1 (e▸P)
  ·exact(((e9.af u).keep M i8).af v).keep Y λe=>b.Yk e.symm
  ·have Z:aj (λn=>n=q.r\/aG q.a=some n\/n=p) i3 h3:=((t.mono λn _ P=>.inl P).then (ai.keep u)).then (((M.mono λn _ P=>.inr (.inl P)).then (ai.keep v)).then (Y.mono λn _ P=>.inr (.inr P)))
   have hd:∀n,q.D n\/G n->¬(n=q.r\/aG q.a=some n\/n=p):=by
    rintro n (P|P) (e|e|e)
    ·exact b.Yl.2 (e▸P)
    ·exact b.ZP n (x n e) P
    ·exact b.Yl.1 (e▸P)
    ·exact(y n P).2.1 e
    ·exact(y n P).2.2 (x n e)
    ·exact(y n P).1 e
   refine fK.aJ ⟨b7,b9,d0,rfl,(e7.mono λn P=>.inr P).keep Z hd,he⟩ (X.rel.mono λB f1 hu=>(hu.mono λn P=>.inl P).keep Z hd)
  ·intro r h
   rcases fI h with rfl|h
   ·rfl
   ·exact b.key r h
  ·have d3:an q.L (bd e)=none:=by
    rw[Kr E b.key b.Yj b.tidy];have:=h.trans hf;simpa using this
   have:∀z:List ((Int×Int)×ah),an z (bd e)=none->aJ z (bd e) e=z++[(bd e,e)]:=by
    intro z
    induction z with
    |nil=>intro _;rfl
    |cons a0 z ih=>
     intro hL;obtain⟨y1,y2⟩:=a0;unfold an at hL;unfold aJ;split at hL
     ·cases hL
     ·rename_i H
      rw[Zq H,ih hL];rfl
   rw[this _ d3,Q3];exact(List.perm_append_comm.trans (List.Perm.cons e b.Yj)).trans (cN e S.l).symm
  ·intro n P
   rcases P with P|P
   ·have:=b.aF n P;omega
   ·have:=hG n P;omega
  ·rintro n (P|P|P|P|P)
   ·exact .inl (b.sub n (.inl P))
   ·exact .inl (b.sub n (.inr (.inl P)))
   ·exact .inl (b.sub n (.inr (.inr (.inl P))))
   ·exact .inl (b.sub n (.inr (.inr (.inr P))))
   ·exact .inr P
  ·refine⟨?_,?_⟩
   ·rintro(P|P)
    ·exact b.Yl.1 P
    ·exact(y _ P).1 rfl
   ·rintro(P|P)
    ·exact b.Yl.2 P
    ·exact(y _ P).2.1 rfl
  ·rintro n hv (P|P)
   ·exact b.ZP n hv P
   ·exact(y _ P).2.2 hv
def Ve{b n:TypeId}(f:kD h b n 1 8)(d:(h.info? n).bind (·.zero)=some (WP 0))(g:a<=c)(P:c*8<=aR){w:World}(e:∀w',aU aP n (·=w.heap.size) w' (UV w.heap.size) a c (List.replicate a 0)->ai w w'->w'.heap.size=w.heap.size+1->o (.slice (UV w.heap.size) a c) w'):
  aK h (Instr.makeSlice b (WP (a:Int)) (WP (c:Int))) w o t:=by
 unfold aR at P;obtain⟨l,m,i,j,p,q,y⟩:=f.info;have r:m= WP 0:=by
  rw[i]at d;simp only[Option.bind_some,j]at d;exact XJ d
 subst r;have k:=run_make (P:=h) w b n l _ f.under i j .i64 .i64 a c oM oM (by rw[q];omega) oM;rw[Qx,Qx,p,Nat.mul_one]at k;have s:ai w (w.alloc (.cells (madeCells (Value.int .i64 0).cells c) n)):=aj.alloc w _;have u:(madeCells (Value.int .i64 0).cells c).toList=List.replicate c (WP 0):=by
  unfold madeCells;rw[Array.toList_map];apply List.ext_getElem
  ·simp
  ·intro z A B
   simp[Value.cells,Nat.mod_one]
 refine aK.mk k (e _ ⟨⟨List.replicate a (WP 0),λ_=>False,⟨⟨by simp[aP,flat],.inr ⟨w.heap.size,c,_,rfl,Qj _,heap_alloc_new w _,g,by unfold maxLen;omega,by simp[size_madeCells,aP,flat],?_⟩⟩⟩,?_,λ_ e=>e.elim⟩,λv P=>by simpa[aG]using P.symm,λv P=>by subst P;simp⟩ s sM)
 ·rw[u]
  simp only[aP,flat,Nat.mul_one,List.take_replicate];rw[X2 g]
 ·exact lz.2 ⟨by simp[ints],λC x=>by rw[List.eq_of_mem_replicate x];simp[aM]⟩
def Gm(f:a<=64):be 71 #[WP (a:Int)] w (Ok λg w'=>∃p F,g= RK p/\cM w' p F ⟨a,[]⟩/\(∀n,F n->w.heap.size<=n)/\ai w w'):=by
 refine GK (Ve vm kR (Q4 _) ce λw1 h i r=>⟨_,_,_,rfl,PA.mk λd e s j=>PA.mk λk b t l=>Ok.mk ⟨_,λn=>w.heap.size<=n/\n<k.heap.size,rfl,⟨au.tT f,⟨_,a,a,w1.heap.size,(·=w.heap.size),λ_=>False,[],[]⟩,l,?_,bU.new (b.get j id),trivial,sM,List.Perm.refl _,λn P=>P.2,?_,by show d.heap.size≠w1.heap.size;omega,⟨by show d.heap.size≠_;omega,by show w1.heap.size≠_;omega⟩,⟨id,id⟩,λ_ _ m=>m⟩,λn P=>P.1,(i.then e).then b⟩⟩)
 ·have o:au.vec ⟨a,[]⟩=List.replicate a 0:=by
   apply X3;intro q
   by_cases c:q<a
   ·rw[au.pM ⟨a,[]⟩ c];simp[c,au.Gt]
   ·rw[Q7 (by rw[au.bT];exact Nat.le_of_not_lt c),Q7 cS]
  rw[o];exact(h.af e).af b
 ·rintro n (rfl|rfl|rfl|P)
  ·show _/\_;omega
  ·show _<=w1.heap.size/\w1.heap.size<_;omega
  ·omega
  ·exact P.elim
end
end Go.Proofs.YtjgjkeponbeekaaGreatDoor
namespace Go.aw
open Go
abbrev FW(n:Option Nat):Fence:={Fence.wide with round:=n}
variable{I:Act}{U:Array Oper}{m:Array Value}{K:Bool}{h3 h4:Bool->ba}{a2:Code}{A:am}{e4:Exit}{d4:Exit->Act->ba}{a7:Func}{z:FuncId}{b5:List Nat}{a4 e3:List Value}{a c i:Nat}{f:UK}{c8:Obj}{R:Oper}{X:Operand}{e2:Operand->Value}{c9:Option Nat}{h:Program}{o:ac}{b k:World}{O:cP}{V:ck}{c2:iP}{e1:lA}
def uX:CallsIn (FW c9) a h z m b A↔Calls h z m b A:=
 ⟨λn=>callsIn_wide.1 (show CallsIn Fence.wide a h z m b A from n),λn=>show CallsIn (FW c9) a h z m b A from(callsIn_wide (n:=a)).2 n⟩
def UW(n:Nat):(FW c9).room n:=λ_ P=>by simp[Fence.wide]at P
def Qa{n:String}(P:Rows h n m b o):RowsIn (FW c9) a h n m b o:=by
 intro c cs _;obtain⟨d,e,f,g⟩:=P c cs;exact⟨d,e,f,(stepsIn_wide (P:=h)).2 g⟩
def wT(n:Oper):Bool:=match n.op with
 | .defer _=>false
 |_=>true
def wT.out(n:wT R=true):∀P,R.op≠.defer P:=by
 intro P a;unfold wT at n;rw[a]at n;cases n
section
variable {P:Program} {ro:Option Nat} {n:Nat}
def N_{next:Act->ba}(d:ro=none\/wT R=true)(a:R.wp P I b next d4):R.wpIn (FW ro) n P I b next d4:=by
 refine⟨λ_ _=>trivial,?_⟩;have f:R.semAt (FW ro).round I.eval=execOp I.eval R:=by
  rcases d with rfl|d
  ·rfl
  ·exact Oper.semAt_eq _ _ _ (wT.out d)
 rw[f];unfold Oper.wp at a;generalize(execOp I.eval R).run P b=g at a⊢
 cases g with
 |ok e h=>
  cases e with
  |value i=>exact a
  |skip=>exact a
  |defer j=>exact a
  |enter k c=>exact⟨λa=>by simp[Fence.wide]at a,uX.2 a⟩
  |row row c=>exact⟨λa=>by simp[Fence.wide]at a,Qa a⟩
  |_=>exact a.elim
 |halt e h=>cases e<;>first|exact a|exact a.elim
def sh{b:Array Oper}{g:Exit->Act->ba}(h:∀d c,¬g .outgrown d c)(e:ro=none\/∀i∈b.toList,wT i=true):∀(f:List Nat) (d:Act) (c:World),wpOps P b g f d c->wpOpsIn (FW ro) n P b g f d c
 |[],d,c,a=>a
 |l::f,d,c,a=>by
  unfold wpOps at a;unfold wpOpsIn
  cases j:b[l]? with
  |none=>rw[j]at a;exact sh h e f d c a
  |some i=>
   rw[j]at a;simp only at a⊢;split
   ·rename_i k
    rw[Zx k]at a;rcases a with a|⟨-,m,o,a⟩
    ·have p:i.wp P d c (wpOpsIn (FW ro) n P b g f) g:=Oper.wp_mono (λd c a=>sh h e f d c a) a
     refine N_ ?_ p;rcases e with e|e
     ·exact .inl e
     ·refine .inr (e i ?_)
      obtain⟨q,rfl⟩:=Q5.1 j;simp
    ·exact Zz a (h m o)
   ·rename_i k
    rw[Zq k]at a;exact⟨λ_ _=>trivial,sh h e f _ c a⟩
end
section
variable {F:Fence} {n:Nat} {P:Program} {Q:Exit->Act->ba} {a:Act} {w:World} {b:Frame} {k:List Item} {cs:List Frame}
def iH:step P (lone (b.atR a (.code (.scope a2)::k)) cs w)= .next (lone (b.atR a (.code a2:: .inScope a2::k)) cs w):=
 step_lone_go (by simp[stepG,stepG.exec,Frame.atR])
def Ef:step P (lone (b.atR a (.inScope a2::k)) cs w)= .next (lone (b.atR a k) cs w):=
 step_lone_go (by simp[stepG,stepG.exec,Frame.atR])
def MN(o:a2.wpIn F n P (Exit.noGoto Q) a w):(Code.scope a2).wpIn F n P Q a w:=by
 intro b k cs p h i;have e:(lone (b.atR a (.code (.scope a2)::k)) cs w).fenced P F:=fenced_calm h i rfl;obtain⟨q,c,d,f,g⟩:=o b (.inScope a2::k) cs p h i
 cases q with
 |normal=>exact⟨.normal,c,d,f,.head e iH (StepsIn.trans g (.one (fenced_calm h i rfl) Ef))⟩
 |exit id=>
  have m:exitTo id (.inScope a2::k)=exitTo id k:=by simp[exitTo]
  exact⟨.exit id,c,d,f,λr j=>.head e iH (g.1 r (by rw[m];exact j)),
   λl j=>let⟨k₁,h1,h2⟩:=g.2 l (by rw[m];exact j);⟨k₁,h1,.head e iH h2⟩⟩
 |goto s=>exact f.elim
 |ret=>exact⟨_,c,d,f,.of_steps (.one e iH) g⟩
 |panic t=>exact⟨_,c,d,f,.of_steps (.one e iH) g⟩
 |outgrown=>exact⟨_,c,d,f,.of_steps (.one e iH) g⟩
def wpIn_loop_ghost(b:Nat->Act->ba)(c:Nat)(g:b c a w)(d:∀e a w,b e a w->a2.wpIn F n P (Exit.then (λh i=>∃l,l<e/\b l h i) Q) a w):(Code.loop a2).wpIn F n P Q a w:=by
 refine wpIn_loop (λa w=>∃e,b e a w) (λa w=>leastOf (λe=>b e a w)) ⟨c,g⟩ ?_;intro a w m;refine wpIn_mono (d _ a w (leastOf_spec m).1) ?_;intro o h i f
 cases o with
 |normal=>
  obtain⟨j,p,k⟩:=f;exact show(∃n,b n h i)/\leastOf (λn=>b n h i)<leastOf (λn=>b n a w)from⟨⟨j,k⟩,Nat.lt_of_le_of_lt ((leastOf_spec ⟨j,k⟩).2 j k) p⟩
 |exit id=>exact f
 |goto q=>exact f
 |ret=>exact f
 |panic r=>exact f
 |outgrown=>exact f
end
def MO(B:h.follows .mixedOrders=true){n id:Nat}(C:∀a,a∈writes (.region id U K)->a<n)(p:Rel n V O I)(P:D h e1 (.region id U K) c2 V O I.defers b):
  (K=false->wpOps h U (dj n V O (writes (.region id U K)) c2) (List.range U.size) I b)/\
  (K=true->∀a,wpOps h U (dj n V O (writes (.region id U K)) c2) (Region.schedule (h.follows .mixedOrders) U a) I {b with drawn:=b.drawn+1}):=by
 have j:∀k∈U.toList,∀l,k.dst=some l->l<n/\l∈writes (.region id U K):=λk i l z=>⟨C l (lC i z),lC i z⟩
 have q:∀s a,jB U s=some a->a<n:=by
  intro s a m;unfold jB at m
  cases i:U[s]? with
  |none=>rw[i]at m;simp at m
  |some k=>
   rw[i]at m;have E:k∈U.toList:=by
    have:=Q5.1 i;obtain⟨N,rfl⟩:=this;simp
   exact(j k E a m).1
 cases K with
 |false=>
  refine⟨λ_=>?_,λP=>by cases P⟩;rw[List.range_eq_range',<-XK,wpOps_eq_wpList U.toList 0 sM];exact AE q U.toList O I b j p (λ_ _=>rfl) P
 |true=>
  refine⟨λP=>(by cases P),λ_ a=>?_⟩;simp only[Region.schedule,B,Bool.true_or,if_true];refine wpAny_sound U.size a _ I _ ?_;unfold D at P;simp only at P;split at P
  ·obtain⟨t,P⟩:=eO.out P
   simp only[Region.lexB,QK]at t;have F:=rN (B0:=V) (e0:=O) (W:=writes (.region id U true)) q U.toList O I j p (λ_ _=>rfl) P;have H:wpQuiet h U (cf b) (λr=>∀c,cf b c->dj n V O (writes (.region id U true)) c2 .normal r c) U.toList I:=by
    refine ll ?_ _ _ F;rintro r ⟨J,u,v,L,M⟩ c g;exact⟨V,J,u,L,by rw[v];exact M c g⟩
   refine wpAny_of_quiet (C:=cf b) (Q:=λr=>∀c,cf b c->dj n V O (writes (.region id U true)) c2 .normal r c) (λ_ c g P=>P c g) _ _ _ _ ⟨1,rfl⟩ ?_;have:=wpAnyQ_lex (C:=cf b) (md:=.any) t.1 U.toList 0 (Array.replicate U.size false) I sM (by simpa using t.2) H;simpa using this
  ·obtain⟨A,P⟩:=eO.out P
   have d:∀(e:Bool) (f:UK) (w:Nat->Bool),wH h V U e f (λo x b=>∀V O,c2 (.panic o) V O x b) (λO x b=>c2 .normal V O x b) w U.size (Array.replicate U.size false) O I.defers (b.drewN 1)->
     wpAny h .any U (dj n V O (writes (.region id U true)) c2) U.size (Array.replicate U.size false) I {b with drawn:=b.drawn+1}:=λe f w P=>
    jU (λo I b P=>rR.post o I b P) (λ_ _ P=>P) _ _ _ _ _ (mV (B0:=V) (e0:=O) (W:=writes (.region id U true)) q A j w _ _ O I _ p (λ_ _=>rfl) P)
   split at P
   ·split at P
    ·obtain⟨f,P⟩:=P _ ⟨1,rfl⟩
     exact d _ f _ P
    ·exact d _ _ _ (P _ ⟨1,rfl⟩)
   ·obtain⟨y,P⟩:=eO.out P
    split at P
    ·split at P
     ·obtain⟨f,P⟩:=P _ ⟨1,rfl⟩
      rw[xZ y _ _ _ (Dh.init _)]at P;exact jU (λo I b P=>rR.post o I b P) (λ_ _ P=>P) _ _ _ _ _ (lV (B0:=V) (e0:=O) (W:=writes (.region id U true)) q A j f _ _ _ O I _ p (λ_ _=>rfl) P)
     ·obtain⟨f,P⟩:=P _ ⟨1,rfl⟩
      rw[rV y _ _ (Dh.init _)]at P;exact d _ f _ P
    ·have P:=P _ ⟨1,rfl⟩
     rw[rV y _ _ (Dh.init _)]at P;exact d _ _ _ P
def kJ(P:Program)(a:Nat)(b:List Value)(c:World)(d:Bool->ba):Prop:=
 YieldAt (FW none) 0 P a b.toArray c λe f=>∃n,e= .returned (.bool n)/\d n f
def kJ.mono(f:kJ h a a4 b h3)(g:∀P e,h3 P e->h4 P e):kJ h a a4 b h4:=by
 obtain⟨i,c,n,d,j,k⟩:=f;exact⟨i,c,n,d,j,k.mono λm e ⟨P,l,f⟩=>⟨P,l,g P e f⟩⟩
def WM(a:Program)(b:Value)(n:Array Value)(c:World)(d:ac):Prop:=
 ∃P,b= .func (.yield P) #[] #[]/\kJ a P n.toList c λe f=>d (.bool e) f
def AG(n:Oper):Option (Operand×Array Operand):=match n.op with
 | .call {callee:=.value (.func _),..}=>none
 | .call {callee:=.value f,args,..}=>some (f,args)
 |_=>none
def S_(d:Program)(a:ck)(b:Array Oper)(h:iP)(c:Oper)(e:cP->List Deferred->ba)(P:cP)(f:List Deferred)(g:World):Prop:=match AG c with
 |some (i,n)=>WM d (ev a P i) (n.map (ev a P)) g λj k=>e (cm P c.dst j) f k
 |none=>Sw d b a c h e P f g
def si(b:Program)(a:ck)(n:Array Oper)(c:iP):List Oper->(cP->List Deferred->ba)->cP->List Deferred->ba
 |[],e,d,f,g=>e d f g
 |i::P,e,d,f,g=>match i.guard with
  |none=>S_ b a n c i (si b a n c P e) d f g
  |some (k,h)=>match jB n k with
   |none=>False
   |some j=>match get a d j with
    | .bool l=>al l
     (match h with
      |true=>S_ b a n c i (si b a n c P e) ((j,.bool true)::d) f g
      |false=>si b a n c P e (cm ((j,.bool true)::d) i.dst undef) f g)
     (match h with
      |true=>si b a n c P e (cm ((j,.bool false)::d) i.dst undef) f g
      |false=>S_ b a n c i (si b a n c P e) ((j,.bool false)::d) f g)
    | .tuple _=>si b a n c P e (cm d i.dst undef) f g
    |_=>False
def MP{n P:Code}(d:RoundIn (FW none) c h i z m n P b A):RoundIn (FW c9) a h i z m n P b A:=
 ⟨trivial,λe cs _=>d.2 e cs (UW _)⟩
def HE{n:Array Operand}{l:Nat}(P:AG R=some (X,n))(c:e2 X= .func (.yield l) #[] #[]):
  (execOp e2 R).run h b=(Instr.yield l (n.map e2)).run h b:=by
 unfold AG at P;split at P
 ·cases P
 ·rename_i e a f d
  simp only[Q1,Prod.mk.injEq]at P;obtain⟨rfl,rfl⟩:=P;simp only[execOp,d,resolve,c];simp[Deferred.ofValue,invoke,Sem.run_bind,Sem.run_pure,Result.andThen]
 ·cases P
def wU{w:Program}{B:Option Nat}{L o:Nat}{e t:ck}{u:cP}{k:List Nat}{P:Array Oper}{l:iP}(M:∀m a,jB P m=some a->a<o)(S:∀a1 e n y f,l a1 e n y f->a1≠.outgrown)(v:B=none\/∀d∈P.toList,wT d=true):
  ∀(N:List Oper) (p:Nat) (n:cP) (i:Act) (f:World),(∀m,N[m]? =P[p+m]?)->(∀d∈N,∀g,d.dst=some g->g<o/\g∈k)->Rel o e n i->(∀a,a∉k->get e n a=get t u a)->
   si w e P l N (λn y f=>l .normal e n y f) n i.defers f->wpOpsIn (FW B) L w P (dj o t u k l) (List.range' p N.length) i f
 |[],p,n,i,f,_,_,j,h,c=>⟨e,n,j,h,c⟩
 |d::b,p,n,i,f,a2,T,j,h,c=>by
  have h0:P[p]? =some d:=by simpa using(a2 0).symm
  have a4:d∈P.toList:=by
   obtain⟨a7,rfl⟩:=Q5.1 h0;simp
  have U:∀m,b[m]? =P[p+1+m]? :=λm=>by have:=a2 (m+1);simpa[Nat.add_assoc,Nat.add_comm 1 m]using this
  have V:∀g,d.dst=some g->g<o:=λg v=>(T d (QV ..) g v).1;have W:∀(n:cP),(∀a,a∉k->get e n a=get t u a)->∀C a,a∉k->get e (cm n d.dst C) a=get t u a:=by
   intro n h C a X
   cases v:d.dst with
   |none=>exact h a X
   |some g=>
    have a5:=(T d (QV ..) g v).2;show get e ((g,C)::n) a=_;rw[ej,Zq (by rintro rfl;exact X a5)];exact h a X
  have z:∀d∈b,∀g,d.dst=some g->g<o/\g∈k:=λd ho=>T d (QJ _ ho);have A:∀(n:cP),Rel o e n i->(∀a,a∉k->get e n a=get t u a)->S_ w e P l d (si w e P l b λn y f=>l .normal e n y f) n i.defers f->
    d.wpIn (FW B) L w i f (wpOpsIn (FW B) L w P (dj o t u k l) (List.range' (p+1) b.length)) (dj o t u k l):=λn j h c=>by
   unfold S_ at c;split at c
   ·rename_i a8 E q
    obtain⟨Y,hf,fn,F,x,H,h1,h2⟩:=c;refine⟨λ_ _=>trivial,?_⟩;have Z:∀a3,d.op≠.defer a3:=by
     intro a3 Z;unfold AG at q;rw[Z]at q;cases q
    rw[Oper.semAt_eq _ _ _ Z,j.eval,HE (l:=Y) q hf];have a6:(Instr.yield Y (E.map (ev e n))).run w f= .ok (.round Y fn F x H) f:=by
     have:=h1
     rwa [Array.toArray_toList]at this
    rw[a6,Oper.uponIn_round];refine⟨λc=>by simp[Fence.wide]at c,(MP h2).mono ?_⟩;rintro _ w' ⟨I,rfl,hK⟩;exact wU M S v b (p+1) _ _ _ U z (j.put _ V _) (W n h _) (by rw[put_defers];exact hK)
   ·refine N_ (v.imp id λv=>v d a4) ?_
    exact Hl j V c (λC a' w' a0 hK=>wU M S v b (p+1) _ _ _ U z a0 (W n h C) hK) (λch w' hq=>⟨e,n,j,h,hq⟩)
  have r:∀(n:cP),Rel o e n i->(∀a,a∉k->get e n a=get t u a)->si w e P l b (λn y f=>l .normal e n y f) (cm n d.dst undef) i.defers f->
    wpOpsIn (FW B) L w P (dj o t u k l) (List.range' (p+1) b.length) (i.put d.dst undef) f:=λn j h c=>
   wU M S v b (p+1) _ _ _ U z (j.put _ V _) (W n h _) (by rw[put_defers];exact c)
  simp only[Xq,List.range'_succ];unfold wpOpsIn;rw[h0];simp only;unfold si at c;split at c
  ·rename_i O
   rw[Zx (by simp[Region.wanted,O])];exact A n j h c
  ·rename_i m s O
   split at c
   ·exact c.elim
   ·rename_i a hj
    have q:=pB j hj (M m a hj);split at c
    ·rename_i I J
     rw[J]at q;simp only at q;have hw:Region.wanted d (yielded P i.tmps)=(I==s):=by
      simp only[Region.wanted,O,q]
      cases I<;>cases s<;>rfl
     rw[hw];have Q:=j.again J;have R:∀K,K∉k->get e ((a,.bool I)::n) K=get t u K:=λK hu=>by rw[sC J];exact h K hu
     cases I<;>cases s<;>simp only[al]at c
     ·exact A _ Q R c
     ·exact⟨λ_ _=>trivial,r _ Q R c⟩
     ·exact⟨λ_ _=>trivial,r _ Q R c⟩
     ·exact A _ Q R c
    ·rename_i vs J
     rw[J]at q;simp only at q;have hw:Region.wanted d (yielded P i.tmps)=false:=by
      simp[Region.wanted,O,q]
     rw[hw];exact⟨λ_ _=>trivial,r _ j h c⟩
    ·exact c.elim
def qU(a:Nat)(n P:World):Prop:=aj (λb=>b=a) n P/\P.heap.size=n.heap.size
def rm(n:Nat)(P:World):Prop:=P.heap[n]? =some (.deferred (some []))
def Oa(n:Nat):Deferred:={target:=.collected n,args:= #[]}
def MQ:List Value->(List Value->Prop)->Prop
 |[],n=>n []
 |z::b,n=>match z with
  | .agg cs=>ny cs.toList λP=>MQ b λa=>n (.agg P.toArray::a)
  |z=>ny [z] λP=>MQ b λa=>n (P++a)
def oV(n:World):UK:=λP=>P≠n.heap.size/\P≠n.heap.size+1
def uc(P a:List Value):Prop:=∀n:List Value->Prop,MQ P n->n a
def Qb:List (Exit×(ba))->(Exit->(ba)->Prop)->Prop
 |[],_=>True
 |(P,a)::b,n=>n P a/\Qb b n
def Yf(n:Exit->ba):List Exit->List (Exit×(ba))
 |[]=>[]
 |x::P=>(x,λa=>n x a)::Yf n P
def YB(n:Exit):List (Exit×(ba))->Prop
 |[]=>False
 |(P,_)::a=>n=P\/YB n a
def Qb.out{a:Exit->ba}{φ:Exit->(ba)->Prop}:∀{l:List Exit},Qb (Yf a l) φ->∀n,YB n (Yf a l)->n∈l/\φ n (λb=>a n b)
 |[],_,n,P=>P.elim
 |y::h,c,n,P=>by
  obtain⟨d,e⟩:=c;rcases P with rfl|P
  ·exact⟨QV ..,d⟩
  ·obtain⟨f,g⟩:=Qb.out e n P
   exact⟨QJ _ f,g⟩
def GU(m:Program)(v:Value)(w:List Value)(a:World)(y:(List Value->Prop)->(List Value->Exit->ba)->ba)(z:ba)(p:List (Exit×(ba))):Prop:=
 ∃o k,v= .func (.func o) #[] k/\enters m o=true/\
 ∃(q:Type) (r:q) (f:q->List (List Value)->ba) (j:Exit->List (List Value)->ba) (s:List (List Value)->List Value->Prop) (t:List (List Value)->Prop),
  (∀h,aj (λ_=>False) a h->h.heap.size=a.heap.size+2->f r [] h)/\
  (∀b n P d,f b n P->qU (a.heap.size+1) P d->f b n d)/\
  (∀x n P d,j x n P->qU (a.heap.size+1) P d->j x n d)/\
  (∀b n P,f b n P->a.heap.size+2<=P.heap.size->y (s n) (λg x c=>match x with
   | .normal=>f b (n++[g]) c
   |x=>YB x p/\j x (n++[g]) c) P)/\
  (∀(i:ba) (l:Exit->ba),(∀P d,i P->aj (oV a) P d->i d)->(∀x P d,l x P->aj (oV a) P d->l x d)->
   (∀P,i P->a.heap.size+2<=P.heap.size)->
   (∀b n g P,f b n P->i P->uc w g->s n g->kJ m (a.heap.size+1) g P λu c=>(u=true/\f b (n++[g]) c/\i c)\/(u=false/\∃x,j x (n++[g]) c/\l x c))->
   ∀h,f r [] h->i h->Calls m o (#[.func (.yield (a.heap.size+1)) #[] #[]]++k) h λA c=>(∃B,A= .returned B)/\((i c/\∃b e,f b e c/\t e)\/∃x n,j x n c/\l x c))/\
  (∀b e P,f b e P->t e->rm a.heap.size P->z P)/\
  Qb p λx C=>∀n P,j x n P->rm a.heap.size P->C P
def Ob:List Nat->List Value->cP->cP
 |P::a,b::c,n=>Ob a c ((P,b)::n)
 |_,_,n=>n
def Qc:List (Nat×Value)->List Nat
 |[]=>[]
 |(n,_)::P=>n::Qc P
def jk:Code->Bool
 | .region _ P _=>P.toList.all wT
 | .seq a b=>jk a&&jk b
 | .cond _ a b=>jk a&&jk b
 | .block _ n=>jk n
 | .loop n=>jk n
 | .scope n=>jk n
 | .rangeFunc .. =>false
 |_=>true
def h_:Code->List Exit
 | .exit id=>[.exit id]
 | .ret=>[.ret]
 | .seq P a=>h_ P++h_ a
 | .cond _ P a=>h_ P++h_ a
 | .block _ n=>h_ n
 | .loop n=>h_ n
 | .scope n=>h_ n
 |_=>[]
def Ta:Exit->Code
 | .ret=>.ret
 | .exit id=>.exit id
 | .goto n=>.goto n
 |_=>.skip
def WN(n:Exit->ba):iP:=λa _ _ _ P=>match a with
 | .normal=>n .normal P
 | .ret=>n .ret P
 | .exit id=>n (.exit id) P
 |_=>False
def DR(f:Program)(e:lA)(g:List Nat):Bool->Code->iP->ck->cP->List Deferred->ba
 |_,.skip,c,b,n,a,P=>c .normal b n a P
 |_,.label _,c,b,n,a,P=>c .normal b n a P
 |_,.exit id,c,b,n,a,P=>c (.exit id) b n a P
 |_,.ret,c,b,n,a,P=>c .ret b n a P
 |_,.region id q p,c,b,n,a,P=>match Cp g id with
  |true=>(match p with
   |false=>si f b q c q.toList (λn a P=>c .normal b n a P) n a P
   |true=>False)
  |false=>D f e (.region id q p) c b n a P
 |top,.seq h k,c,b,n,a,P=>match PF e.Sh (key k)with
  |none=>DR f e g top h (Cr (λb n a P=>DR f e g top k c b n a P) c) b n a P
  |some d=>∃x:Fn (jj d) (ba),DR f e g top h (Cr (λl s j i=>Cq j a (ap (jj d) x (Ak l s d) i)) c) b n a P/\
    fu (writes h) n λu=>ny (jj d) λm=>∀(l:ck) (i:World),ap (jj d) x m i->DR f e g top k c l (yP d m u) a i
 |top,.cond o h k,c,b,n,a,P=>match ev b n o with
  | .bool A=>al A (DR f e g top h c b n a P) (DR f e g top k c b n a P)
  |_=>False
 |top,.block id o,c,b,n,a,P=>DR f e g top o (x_ id c) b n a P
 |top,.scope o,c,b,n,a,P=>DR f e g top o (Ho c) b n a P
 |top,.loop o,c,b,n,a,P=>match PF e.loops (key o)with
  |none=>False
  |some d=>∃v:Nat->Fn (jj d) (ba),(∃t,ap (jj d) (v t) (Ak b n d) P)/\
    ∀t,fu (writes o) n λu=>ny (jj d) λm=>∀(l:ck) (i:World),ap (jj d) (v t) m i->
     DR f e g top o (Cr (λl s j i=>Cq j a (∃y,y<t/\ap (jj d) (v y) (Ak l s d) i)) c) l (yP d m u) a i
 |top,.rangeFunc B C h k,c,b,n,a,P=>match top with
  |false=>False
  |true=>match PF e.loops (key k)with
   |none=>False
   |some d=>eO (PE (Qc d) C.toList&&(jk h&&jk k)) (GU f (ev b n B) (jj d) P
     (λE F r=>MQ (jj d) λm=>E m->DR f e g false h (Cr (λl s j i=>aj (oV P) r i/\∀w,qU (P.heap.size+1) i w->DR f e g false k (WN λh z=>aj (oV P) w z/\F m h z) l s j w) (λ_ _ _ _ _=>False)) b (Ob (Qc d) m n) [] r)
     (λr=>c .normal b n (Oa P.heap.size::a) r) (Yf (λh r=>c h b n (Oa P.heap.size::a) r) (h_ k)))
 |_,_,_,_,_,_,_=>False
def mi:Code->List Nat
 | .region _ b _=>E_ b.toList
 | .seq n P=>mi n++mi P
 | .cond _ n P=>mi n++mi P
 | .block _ a=>mi a
 | .loop a=>mi a
 | .scope a=>mi a
 | .rangeFunc _ c n P=>c.toList++(mi n++mi P)
 |_=>[]
def Tb:∀(P:List Value) (b:List Value->Prop),(∀n,n.length=P.length->b n)->MQ P b:=by
 have d:∀(P:List Value) (b:List Value->Prop),(∀n,n.length=P.length->b n)->ny P b:=by
  intro P
  induction P with
  |nil=>intro b a;exact a [] rfl
  |cons g P e=>
   intro b a
   cases g
   case pointer h=>cases h<;>simp only[ny]<;>intros<;>exact e _ λn c=>a _ (by simp[c])
   all_goals(simp only[ny];intros;exact e _ λn c=>a _ (by simp[c]))
 intro P
 induction P with
 |nil=>intro b a;exact a [] rfl
 |cons g P e=>
  intro b a
  cases g
  case pointer h=>cases h<;>(simp only[MQ];exact d [_] _ λn c=>e _ λj f=>a _ (by have i:n.length=1:=c;simp[i,f,Nat.add_comm]))
  case agg cs=>exact d cs.toList _ λn c=>e _ λj f=>a _ (by simp[f])
  all_goals(simp only[MQ];exact d [_] _ λn c=>e _ λj f=>a _ (by have i:n.length=1:=c;simp[i,f,Nat.add_comm]))
def uc.len(n:uc a4 e3):e3.length=a4.length:=n _ (Tb a4 _ λ_ n=>n)
def Ki:∀n:List (Nat×Value),(Qc n).length=(jj n).length
 |[]=>rfl
 |(_,_)::P=>by simp[Qc,jj,Ki P]
def FM{e:Nat}{i:ck}:∀(b:List Nat) (P:List Value) (c:cP) (n:Array Value),(∀a∈b,a<e)->P.length=b.length->Rel e i c {tmps:=n,defers:=[]}->
  Rel e i (Ob b P c) {tmps:=(b.zip P).foldl (λa (j:Nat×Value)=>a.setIfInBounds j.1 j.2) n,defers:=[]}
 |[],P,c,n,_,d,f=>by
  cases P with
  |nil=>exact f
  |cons g P=>simp at d
 |a::b,P,c,n,k,d,f=>by
  cases P with
  |nil=>simp at d
  |cons g P=>
   exact FM b P ((a,g)::c) _ (λl h=>k l (QJ _ h)) (by simpa using d) (f.put (some a) (λl h=>by cases h;exact k a (QV ..)) g)
def Kj:∀(P:Code) (a:Exit),a∈h_ P->a= .ret\/∃id,a= .exit id:=by
 intro P
 induction P with
 |exit id=>intro a n;simp only[h_,List.mem_singleton]at n;exact .inr ⟨id,n⟩
 |ret=>intro a n;simp only[h_,List.mem_singleton]at n;exact .inl n
 |seq a f b c=>intro d n;exact(Q6.1 n).elim (b d) (c d)
 |cond P a f b c=>intro d n;exact(Q6.1 n).elim (b d) (c d)
 |block id P e=>exact e
 |loop P e=>exact e
 |scope P e=>exact e
 |_=>intro d n;cases n
def ku{w:World}{l:Nat}{o:Obj}:qU l w (w.putObj l o):=
 ⟨⟨rfl,rfl,rfl,sM,λP _ n=>World.putObj_heap_other n⟩,sM⟩
def aj.obj(P:aj f b k)(n:b.heap[a]? =some c8)(c:¬f a):k.heap[a]? =some c8:=
 (P.block a (Q5.1 n).1 c).trans n
def dj.of(n:Rel a V O I)(P:c2 e4 V O I.defers b):dj a V O b5 c2 e4 I b:=⟨V,O,n,λ_ _=>rfl,P⟩
def Yg(hm:h.follows .mixedOrders=true){n m:Nat}:∀(I:Code) (r:Option Nat) (d:Bool) (t:iP) (e:ck) (f:cP) (l:Act) (b:World),
  (r=none\/(d=false/\jk I=true))->(∀a,a∈mi I->a<n)->(∀u e f Y b,t u e f Y b->u≠.outgrown)->Rel n e f l->DR h e1 b5 d I t e f l.defers b->I.wpIn (FW r) m h (dj n e f (writes I) t) l b:=by
 intro I
 induction I generalizing m with
 |skip=>intro r d t e f l b _ _ _ k P;exact wpIn_skip (dj.of k P)
 |label a0=>intro r d t e f l b _ _ _ k P;exact wpIn_label (dj.of k P)
 |exit id=>intro r d t e f l b _ _ _ k P;exact wpIn_exit (dj.of k P)
 |ret=>intro r d t e f l b _ _ _ k P;exact wpIn_ret (dj.of k P)
 |goto a0=>intro r d t e f l b _ _ _ k P;exact P.elim
 |refuse sD=>intro r d t e f l b _ _ _ k P;exact P.elim
 |scope I ih=>
  intro r d t e f l b C y J k P;refine MN (wpIn_mono (ih r d (Ho t) e f l b C y (by intro q e f Y b c Q;subst Q;exact J _ _ _ _ _ c rfl) k P) ?_);intro q v x o;obtain⟨z,w,B,F,c⟩:=o
  cases q with
  |goto a0=>exact c.elim
  |normal=>exact⟨z,w,B,F,c⟩
  |exit id=>exact⟨z,w,B,F,c⟩
  |ret=>exact⟨z,w,B,F,c⟩
  |panic ch=>exact⟨z,w,B,F,c⟩
  |outgrown=>exact⟨z,w,B,F,c⟩
 |region id A Z=>
  intro r d t e f l b C y J k P;have hd:r=none\/∀V∈A.toList,wT V=true:=C.imp (λP=>P) λP=>by
   have:=P.2;unfold jk at this;exact ZY.1 this
  have d1:∀v x,¬dj n e f (writes (.region id A Z)) t .outgrown v x:=λl b ⟨e,f,_,_,c⟩=>J _ _ _ _ _ c rfl;unfold DR at P;split at P
  ·split at P
   ·have W:∀V∈A.toList,∀a5,V.dst=some a5->a5<n/\a5∈writes (.region id A false):=λV ho a5 hd=>⟨y a5 (lC ho hd),lC ho hd⟩
    have e9:∀c4 a,jB A c4=some a->a<n:=by
     intro c4 a N;unfold jB at N
     cases ho:A[c4]? with
     |none=>rw[ho]at N;simp at N
     |some V=>
      rw[ho]at N;have f0:V∈A.toList:=by
       obtain⟨d2,rfl⟩:=Q5.1 ho;simp
      exact(W V f0 a N).1
    refine wpIn_region ?_;rw[List.range_eq_range',<-XK];exact wU e9 J hd A.toList 0 f l b sM W k (λ_ _=>rfl) P
   ·exact P.elim
  ·obtain⟨h1,h2⟩:=MO hm (n:=n) y k P
   cases Z with
   |false=>exact wpIn_region (sh d1 hd _ _ _ (h1 rfl))
   |true=>exact wpIn_region_draw λa=>sh d1 hd _ _ _ (h2 rfl a)
 |seq u R K L=>
  intro r d t e f l b C y J k P;have b4:r=none\/(d=false/\jk u=true):=C.imp (λP=>P) λP=>⟨P.1,by have:=P.2;simp only[jk,QK]at this;exact this.1⟩
  have b0:r=none\/(d=false/\jk R=true):=C.imp (λP=>P) λP=>⟨P.1,by have:=P.2;simp only[jk,QK]at this;exact this.2⟩
  have b6:∀a,a∈mi u->a<n:=λa j=>y a (Q6.2 (.inl j));have b7:∀a,a∈mi R->a<n:=λa j=>y a (Q6.2 (.inr j));have g:∀(a3:ck->cP->List Deferred->ba) (q:Exit) (v:Act) (x:World),q≠.normal->dj n e f (writes u) (Cr a3 t) q v x->dj n e f (writes (u.seq R)) t q v x:=by
   intro a3 q v x f4 o;refine o.mono (λa j=>Q6.2 (.inl j)) (λ_ _=>rfl) λz w i8 w1 c=>?_
   cases q with
   |normal=>exact Zz rfl f4
   |outgrown=>exact c.elim
   |_=>exact c
  have d3:∀(a3:ck->cP->List Deferred->ba) q e f Y b,Cr a3 t q e f Y b->q≠.outgrown:=by
   intro a3 q e f Y b c Q;subst Q;exact c.elim
  unfold DR at P;split at P
  ·have hx:=K (m:=m) r d _ e f l b b4 b6 (d3 _) k P
   refine wpIn_seq (wpIn_mono hx ?_);intro q v x o
   cases q with
   |normal=>
    obtain⟨z,w,B,F,c⟩:=o;have hy:=L (m:=m) r d t z w v x b0 b7 J B c;refine wpIn_mono hy (λq d4 d5 o=>?_);refine o.mono (λa j=>Q6.2 (.inr j)) (λa j=>F a λhm=>j (Q6.2 (.inl hm))) λ_ _ _ _ c=>c
   |exit id=>exact g _ _ _ _ sM o
   |goto a0=>exact g _ _ _ _ sM o
   |ret=>exact g _ _ _ _ sM o
   |panic ch=>exact g _ _ _ _ sM o
   |outgrown=>exact g _ _ _ _ sM o
  ·rename_i H hS
   obtain⟨f5,P,c5⟩:=P;obtain⟨w,h1,h2,c5⟩:=fu.out c5;have hx:=K (m:=m) r d _ e f l b b4 b6 (d3 _) k P;refine wpIn_seq (wpIn_mono hx ?_);intro q v x o
   cases q with
   |normal=>
    obtain⟨B2,e2,O,b8,c⟩:=o;obtain⟨b9,hJ⟩:=Cq.out c;have hv:=oC O H;have a7:=kp B2 e2 H;have d6:=ap.all a7 hJ c5 (λa=>v.tmps.getD a undef) x hJ;rw[hv,<-b9]at d6;have d7:=wK (n:=n) H O.size h1 h2 (B0:=e) (λa j=>(O.slot a).trans (b8 a j));have hy:=L (m:=m) r d t _ _ v x b0 b7 J d7 d6;refine wpIn_mono hy (λq d4 d5 o=>?_);refine o.mono (λa j=>Q6.2 (.inr j)) (λa j=>?_) λ_ _ _ _ c=>c;rw[<-d7.slot];exact(O.slot a).trans (b8 a λhm=>j (Q6.2 (.inl hm)))
   |exit id=>exact g _ _ _ _ sM o
   |goto a0=>exact g _ _ _ _ sM o
   |ret=>exact g _ _ _ _ sM o
   |panic ch=>exact g _ _ _ _ sM o
   |outgrown=>exact g _ _ _ _ sM o
 |cond I u R K L=>
  intro r d t e f l b C y J k P;have b4:r=none\/(d=false/\jk u=true):=C.imp (λP=>P) λP=>⟨P.1,by have:=P.2;simp only[jk,QK]at this;exact this.1⟩
  have b0:r=none\/(d=false/\jk R=true):=C.imp (λP=>P) λP=>⟨P.1,by have:=P.2;simp only[jk,QK]at this;exact this.2⟩
  unfold DR at P;split at P
  ·rename_i f6 S
   refine wpIn_cond_split (t:=f6) (by rw[k.eval];exact S) (λj=>?_) (λhf=>?_)
   ·subst j
    refine wpIn_mono (K r d t e f l b b4 (λa j=>y a (Q6.2 (.inl j))) J k P) (λq v x o=>?_);exact o.mono (λa j=>Q6.2 (.inl j)) (λ_ _=>rfl) λ_ _ _ _ c=>c
   ·subst hf
    refine wpIn_mono (L r d t e f l b b0 (λa j=>y a (Q6.2 (.inr j))) J k P) (λq v x o=>?_);exact o.mono (λa j=>Q6.2 (.inr j)) (λ_ _=>rfl) λ_ _ _ _ c=>c
  ·exact P.elim
 |block id I ih=>
  intro r d t e f l b C y J k P;refine wpIn_block (wpIn_mono (ih r d (x_ id t) e f l b C y (by intro q e f Y b c Q;subst Q;exact c.elim) k P) ?_);intro q v x o;obtain⟨z,w,B,F,c⟩:=o
  cases q with
  |exit a8=>
   show(if a8=id then _ else _);simp only[x_]at c
   cases S:Nat.beq a8 id with
   |true=>
    rw[S]at c;rw[Zx (X9 S)];exact⟨z,w,B,F,c⟩
   |false=>
    rw[S]at c;rw[Zq (by rintro rfl;simp at S)];exact⟨z,w,B,F,c⟩
  |normal=>exact⟨z,w,B,F,c⟩
  |goto a0=>exact⟨z,w,B,F,c⟩
  |ret=>exact⟨z,w,B,F,c⟩
  |panic ch=>exact⟨z,w,B,F,c⟩
  |outgrown=>exact c.elim
 |loop I ih=>
  intro r d t e f l b C y J k P;unfold DR at P;split at P
  ·exact P.elim
  ·rename_i H hS
   obtain⟨f7,⟨m0,h0⟩,f8⟩:=P;refine wpIn_loop_ghost (λm v x=>v.tmps.size=n/\(∀a,a∉writes I->v.tmps.getD a undef=get e f a)/\v.defers=l.defers/\
    ap (jj H) (f7 m) (H.map λa4=>v.tmps.getD a4.1 undef) x) m0 ⟨k.size,λa _=>k.slot a,rfl,by rw[<-oC k H];exact h0⟩ ?_
   rintro mm v x ⟨f9,d8,b9,hI⟩;obtain⟨w,h1,h2,g0⟩:=fu.out (f8 mm);have a7:(H.map λa4=>v.tmps.getD a4.1 undef).length=(jj H).length:=by rw[<-kp e f H,AF];simp
   have S:=ap.all a7 hI g0 (λa=>v.tmps.getD a undef) x hI;have c0:=wK (n:=n) H f9 h1 h2 d8;rw[<-b9]at S;have c6:=ih (m:=m) r d _ _ _ v x C y (by intro q e f Y b c Q;subst Q;exact c.elim) c0 S;refine wpIn_mono c6 ?_;intro q d4 d5 o;obtain⟨B2,e2,O,b8,c⟩:=o;have a9:∀a,a∉writes I->get B2 e2 a=get e f a:=λa j=>(b8 a j).trans ((c0.slot a).symm.trans (d8 a j))
   cases q with
   |normal=>
    obtain⟨g1,m',d2,g2⟩:=Cq.out c;refine⟨m',d2,O.size,λa j=>(O.slot a).trans (a9 a j),g1.trans b9,?_⟩;rw[<-oC O H];exact g2
   |outgrown=>exact c.elim
   |exit id=>exact⟨B2,e2,O,a9,c⟩
   |goto a0=>exact⟨B2,e2,O,a9,c⟩
   |ret=>exact⟨B2,e2,O,a9,c⟩
   |panic ch=>exact⟨B2,e2,O,a9,c⟩
 |rangeFunc g3 ps u R K L=>
  intro r d t e f l b C y J k P;unfold DR at P;split at P
  ·exact P.elim
  obtain rfl:r=none:=C.resolve_right λP=>by cases P.1
  split at P
  ·exact P.elim
  rename_i H hS;obtain⟨d9,P⟩:=eO.out P;simp only[QK]at d9;obtain⟨c1,g4,g5⟩:=d9;have c1:=PE.out c1;obtain⟨c7,a1,g6,g7,σ,s0,f5,Jx,a3,i9,g8,e0,c2,c6,g9,h3,h4⟩:=P;have b6:∀a,a∈mi u->a<n:=λa j=>y a (Q6.2 (.inr (Q6.2 (.inl j))));have b7:∀a,a∈mi R->a<n:=λa j=>y a (Q6.2 (.inr (Q6.2 (.inr j))));have h5:∀a,a∈ps.toList->a<n:=λa j=>y a (Q6.2 (.inl j));refine wpIn_rangeFunc ?_;intro fn _;obtain⟨p,s⟩:∃p:LoopState->Option Code->Loop,p=λst pe=>{state:=st,pending:=pe,fn,tmps:=l.tmps,params:=ps,assign:=u,body:=R,defers:=b.heap.size}:=⟨_,rfl⟩
  obtain⟨T,b2⟩:∃T,(b.alloc (.deferred (some []))).alloc (.loop (p .ready none))=T:=⟨_,rfl⟩
  have h6:T.heap[b.heap.size+1]? =some (.loop (p .ready none)):=by
   rw[<-b2];have:=World.alloc_heap_new (b.alloc (.deferred (some []))) (.loop (p .ready none));rwa [World.size_alloc]at this
  have h7:T.heap[b.heap.size]? =some (.deferred (some [])):=by
   rw[<-b2];exact(Go.RowKit.Below.heap_alloc _ _ _ sM).trans (World.alloc_heap_new b _)
  have h8:T.heap.size=b.heap.size+2:=by rw[<-b2];simp
  have h9:aj (λ_=>False) b T:=by
   rw[<-b2];exact⟨rfl,rfl,rfl,by simp;omega,λi0 E _=>(Go.RowKit.Below.heap_alloc _ _ _ cS).trans (Go.RowKit.Below.heap_alloc b _ i0 E)⟩
  let i1:ba:=λe1=>e1.heap[b.heap.size+1]? =some (.loop (p .ready none))/\e1.heap[b.heap.size]? =some (.deferred (some []))
  let Rx:Exit->ba:=λu e1=>YB u (Yf (λu A0=>t u e f (Oa b.heap.size::l.defers) A0) (h_ R))/\e1.heap[b.heap.size+1]? =some (.loop (p .done (some (Ta u))))/\e1.heap[b.heap.size]? =some (.deferred (some []))
  have c3:∀{e1 e:World} {V o':Obj},aj (oV b) e1 e->e1.heap[b.heap.size+1]? =some V->e1.heap[b.heap.size]? =some o'->e.heap[b.heap.size+1]? =some V/\e.heap[b.heap.size]? =some o':=λE h1 h2=>
   ⟨E.obj h1 λP=>P.2 rfl,E.obj h2 λP=>P.1 rfl⟩
  refine⟨b.heap.size+1,[Oa b.heap.size],T,{target:=.fn (.func c7) a1,args:= #[.func (.yield (b.heap.size+1)) #[] #[]]},T,c7,#[.func (.yield (b.heap.size+1)) #[] #[]]++a1,T,?_,?_,λ_ _=>trivial,?_,λP=>by simp[Fence.wide]at P,?_⟩
  ·rw[<-b2,s];exact run_enterLoop_outer _ _ _ _ _
  ·have hg:l.eval g3= .func (.func c7) #[] a1:=by rw[k.eval];exact g6
   simp only[resolve,hg];simp[go_sem]
  ·simp only[invoke];exact ji g7 _ _
  refine uX.2 (Calls.mono (g9 i1 Rx (λe1 e P E=>c3 E P.1 P.2) (λu e1 e P E=>⟨P.1,c3 E P.2.1 P.2.2⟩) (λe1 P=>by have:=(Q5.1 P.1).1;omega) ?_ T (g8 T h9 h8) ⟨h6,h7⟩) ?_)
  ·
   rintro c8 M vs A1 N ⟨W,E⟩ e3 hN;have a7:=e3.len;have e4:vs.length=ps.toList.length:=by rw[a7,<-c1,Ki]
   have hy:=run_yield (P:=h) (args:=vs.toArray) W (by rw[s];simpa using e4);rw[s]at hy;refine⟨fn,_,u,R,hy,roundIn_of_wpIn trivial ?_⟩;have S:=e3 _ (c6 c8 M A1 N (by have:=(Q5.1 W).1;omega)) hN;have c0:Rel n e (Ob (Qc H) vs f) {tmps:=(ps.zip vs.toArray).foldl (λU (u:Tmp×Value)=>U.setIfInBounds u.1 u.2) l.tmps,defers:=[]}:=by
    have h0:Rel n e f {tmps:=l.tmps,defers:=[]}:=⟨k.size,k.slot⟩
    have:=FM ps.toList vs f l.tmps h5 e4 h0;rw[c1];have w:(ps.zip vs.toArray).foldl (λU (u:Tmp×Value)=>U.setIfInBounds u.1 u.2) l.tmps=(ps.toList.zip vs).foldl (λa (a4:Nat×Value)=>a.setIfInBounds a4.1 a4.2) l.tmps:=by
     rw[<-Array.foldl_toList,Array.toList_zip]
    rw[w];exact this
   have hx:=K (m:=0) (some (b.heap.size+1)) false _ e _ _ A1 (.inr ⟨rfl,g4⟩) b6 (by intro q e f Y b c Q;subst Q;exact c.elim) c0 S;refine wpIn_mono hx ?_;intro q i2 A2 o;obtain⟨z,w,B,-,c⟩:=o
   cases q with
   |exit id=>exact c.elim
   |goto a0=>exact c.elim
   |ret=>exact c.elim
   |panic ch=>exact c.elim
   |outgrown=>exact c.elim
   |normal=>
    obtain⟨i3,c⟩:=c;obtain⟨e5,i4⟩:=c3 i3 W E;refine⟨_,run_beginRound e5 (by rw[s]),?_⟩;have c:=c _ (ku (w:=A2) (l:=b.heap.size+1) (o:=.loop {p .ready none with state:=.busy}));have e6:(A2.putObj (b.heap.size+1) (.loop {p .ready none with state:=.busy})).heap[b.heap.size+1]? =some (.loop {p .ready none with state:=.busy}):=World.putObj_heap_same (Q5.1 e5).1;have e7:(A2.putObj (b.heap.size+1) (.loop {p .ready none with state:=.busy})).heap[b.heap.size]? =some (.deferred (some [])):=(World.putObj_heap_other oM).trans i4;generalize A2.putObj (b.heap.size+1) (.loop {p .ready none with state:=.busy})=A3 at c e6 e7;have hy:=L (m:=0) (some (b.heap.size+1)) false _ z w i2 A3 (.inr ⟨rfl,g5⟩) b7 (by intro q e f Y b c Q;subst Q;exact c.elim) B c;refine wpIn_mono hy ?_;have a2:∀(i:Option Code) (X:World),aj (oV b) A3 X->
      (Instr.endRound (b.heap.size+1) i).run h X= .ok (.bool i.isNone) (X.putObj (b.heap.size+1) (.loop (p (if i.isNone then .ready else .done) i)))/\
      (X.putObj (b.heap.size+1) (.loop (p (if i.isNone then .ready else .done) i))).heap[b.heap.size+1]? =some (.loop (p (if i.isNone then .ready else .done) i))/\
      (X.putObj (b.heap.size+1) (.loop (p (if i.isNone then .ready else .done) i))).heap[b.heap.size]? =some (.deferred (some [])):=λi X a6=>by
     obtain⟨e8,i5⟩:=c3 a6 e6 e7;have:=run_endRound (P:=h) i e8;rw[s]at this⊢;exact⟨this,World.putObj_heap_same (Q5.1 e8).1,(World.putObj_heap_other oM).trans i5⟩
    intro q j0 X o;obtain⟨B4,j1,j2,-,b1⟩:=o
    cases q with
    |normal=>
     obtain⟨a6,b3⟩:=b1;obtain⟨f1,f2,f3⟩:=a2 none X a6;exact⟨_,_,f1,true,rfl,.inl ⟨rfl,e0 _ _ _ _ b3 ku,f2,f3⟩⟩
    |ret=>
     obtain⟨a6,c9,b3⟩:=b1;obtain⟨f1,f2,f3⟩:=a2 (some .ret) X a6;exact⟨_,_,f1,false,rfl,.inr ⟨rfl,.ret,c2 _ _ _ _ b3 ku,c9,f2,f3⟩⟩
    |exit id=>
     obtain⟨a6,c9,b3⟩:=b1;obtain⟨f1,f2,f3⟩:=a2 (some (.exit id)) X a6;exact⟨_,_,f1,false,rfl,.inr ⟨rfl,.exit id,c2 _ _ _ _ b3 ku,c9,f2,f3⟩⟩
    |goto a=>exact b1.elim
    |panic ch=>exact b1.elim
    |outgrown=>exact b1.elim
  ·
   rintro ed A2 ⟨⟨j3,rfl⟩,(⟨⟨W,E⟩,c8,d0,N,hT⟩|⟨x1,M,N,i6,W,E⟩)⟩
   ·refine⟨none,_,by have:=run_endLoop (P:=h) W (by rw[s];simp);rw[s]at this;exact this,?_⟩
    exact dj.of (k.defers _) (h3 c8 d0 _ (e0 _ _ _ _ N ku) hT ((World.putObj_heap_other oM).trans E))
   ·refine⟨some (Ta x1),_,by have:=run_endLoop (P:=h) W (by rw[s];simp);rw[s]at this;exact this,?_⟩
    obtain⟨i7,c⟩:=Qb.out h4 x1 i6;rcases Kj R x1 i7 with rfl|⟨id,rfl⟩
    ·exact wpIn_ret (dj.of (k.defers _) (c M _ (c2 .ret M A2 _ N ku) ((World.putObj_heap_other oM).trans E)))
    ·exact wpIn_exit (dj.of (k.defers _) (c M _ (c2 (.exit id) M A2 _ N ku) ((World.putObj_heap_other oM).trans E)))
def Xb(n:ba):List Deferred->ba
 |[],P=>n P
 |d::c,P=>match d.target with
  | .collected a=>rm a P/\∀b,qU a P b->Xb n c b
  |_=>False
def VM(c:Program)(d:Func)(P:am):iP:=λg e f a n=>match g with
 | .normal=>Xb (λn=>JA c d.results.toList e f n λb=>P (.returned (oneOf b)) n) a n
 | .ret=>Xb (λn=>JA c d.results.toList e f n λb=>P (.returned (oneOf b)) n) a n
 | .panic h=>Xb (λn=>P (.panicked h) n) a n
 |_=>False
def pN{f:Program}{g:Func}{n:Array Value}{h:am}{b:ba}{e:FrameMode}(i:e≠.run){j:Nat}(k:∀P,b P->LeavesIn (FW none) j f g n h [] e P):∀(c:List Deferred) (P:World),Xb b c P->LeavesInM (FW none) j f g n h c e P
 |[],P,a=>k P a
 |d::c,P,a=>by
  unfold Xb at a;split at a
  ·rename_i l m
   obtain⟨o,a⟩:=a;exact⟨i,.inl ⟨l,_,m,run_takeDeferred o,pN i k c _ (a _ ku)⟩⟩
  ·exact a.elim
def oh(g:lA)(i:List Nat)(j:h.follows .mixedOrders=true)(k:h.funcs[z]? =some a7)(l:a7.body=some a2)(o:m.size<=a7.ntmps)(p:vx a7.ntmps (mi a2)=true)(P:DR h g i true a2 (VM h a7 A) (λ_=>undef) (fC 0 m.toList) [] b):Calls h z m b A:=by
 refine uX.1 (callsIn_of_wp_marks (F:=FW none) (n:=0) k l trivial (wpIn_mono (Yg j a2 none true (VM h a7 A) _ _ _ b (.inl rfl) (lY p) (by intro c d e u b n q;subst q;exact n.elim) (ye o []) P) ?_));rintro c r v ⟨d,e,s,_,n⟩;have f:∀b,(JA h a7.results.toList d e b λa=>A (.returned (oneOf a)) b)->LeavesIn (FW none) 0 h a7 r.tmps A [] .returning b:=λb P=>by
  obtain⟨a,t,P⟩:=rW s P;exact⟨_,rX t,P⟩
 cases c with
 |normal=>exact pN sM f _ _ n
 |ret=>exact pN sM f _ _ n
 |panic w=>exact pN sM (λb P=>P) _ _ n
 |exit id=>exact n.elim
 |goto a=>exact n.elim
 |outgrown=>exact n.elim

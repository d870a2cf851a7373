import Derived.Test.YtfchlbaidamodaaGreatDoorKc21
set_option linter.all false
set_option maxRecDepth 20000
namespace Go.ax
open Go
def pO(a:Int×Int):Value:=.agg #[QH a.1,QH a.2]
def D_(a:Int×Int×Int):Value:=.agg #[QH a.1,QH a.2.1,QH a.2.2]
structure Le (P:Program) (t ti:TypeId):Prop where
 hu:P.underlying t=some (.struct (P.fieldsOf t))
 ui:P.underlying ti=some (.int .i64)
 hf:∃n1 n2,(P.fieldsOf t).toList.map (λf=>(f.name,f.type,f.offset))=[(n1,ti,0),(n2,ti,1)]/\n1≠ "_"/\n2≠ "_"
 hp:P.stoodInHeld t=false
 hm:P.eqGuardType P.depth t=false
 ag:vg P ti=false
variable{C V e m:Int}{R Y:Operand}{o u:Value->World->Prop}{b:World}
section
variable {P:Program} {t ti:TypeId}
def Le.equalIn(b:Le P t ti)(f:Nat)(c d:Int×Int)(e:World):(Op.equalIn (f+2) t (pO c) (pO d)).run P e= .ok (c==d) e:=by
 obtain⟨v,w,a,g,h⟩:=b.hf;unfold pO;rw[run_equalIn_struct e (f+1) _ _ _ b.hu b.hp];generalize(P.fieldsOf t).toList=i at a
 match i,a with
 |[x,y],a=>
  simp only[QY,List.map_nil,List.cons.injEq,Prod.mk.injEq,and_true]at a;obtain⟨⟨j,k,l⟩,m,n,o⟩:=a;have p:(isAgg ti).run P e= .ok false e:=dA _ _ _ b.ag ⟨_,b.ui⟩ e;have q:=run_equalIn_int (P:=P) e f ti .i64 .i64 c.1 d.1 b.ui;have r:=run_equalIn_int (P:=P) e f ti .i64 .i64 c.2 d.2 b.ui;unfold Op.eqFields Op.eqFields Op.eqFields;rw[j,k,l,m,n,o];have s:(c==d)=(c.1==d.1&&c.2==d.2):=rfl;rw[s]
  cases b:c.1==d.1<;>simp[part,p,q,r,b,g,h]
  by_cases u:c.2=d.2<;>simp[u]
 |[],a=>simp at a
 |[_],a=>simp at a
 |_::_::_::_,a=>simp at a
def Le.eql(a:Le P t ti)(c:o (.bool (e==C&&m==V)) b):
  aH P (do eqGuard .eql t R Y (.agg #[QH e,QH m]) (.agg #[QH C,QH V]);binOp .eql t (.agg #[QH e,QH m]) (.agg #[QH C,QH V]):Sem Value) b o u:=by
 refine aH.mk (v:=.bool (e==C&&m==V)) ?_ c;rw[Sem.run_bind,run_eqGuard_agg b .eql _ R Y _ _ a.hm,Result.andThen_ok,run_eql_struct];have:=a.equalIn 9998 (e,m) (C,V) b;unfold pO at this;rw[this];rfl
def Le.neq(a:Le P t ti)(c:o (.bool (!(e==C&&m==V))) b):
  aH P (do eqGuard .neq t R Y (.agg #[QH e,QH m]) (.agg #[QH C,QH V]);binOp .neq t (.agg #[QH e,QH m]) (.agg #[QH C,QH V]):Sem Value) b o u:=by
 refine aH.mk (v:=.bool (!(e==C&&m==V))) ?_ c;rw[Sem.run_bind,run_eqGuard_agg b .neq _ R Y _ _ a.hm,Result.andThen_ok,run_neq_struct];have:=a.equalIn 9998 (e,m) (C,V) b;unfold pO at this;rw[this];rfl
def Le.check(c:Le P t ti)(e:Nat)(h:Int×Int)(b:World)(f:Bool):(Instr.checkKey f (e+2) t (pO h)).run P b= .ok () b:=by
 obtain⟨u,v,a,i,j⟩:=c.hf;have k:(isAgg ti).run P b= .ok false b:=dA _ _ _ c.ag ⟨_,c.ui⟩ b;have l:∀g:Int,(Instr.checkKey f (e+1) ti (QH g)).run P b= .ok () b:=λg=>by simp[Instr.checkKey,run_underlying c.ui]
 unfold pO;have m:=c.hu;unfold Instr.checkKey;rw[Sem.run_bind,run_underlying m,Result.andThen_ok];generalize w:P.fieldsOf t=d at a;obtain⟨d⟩:=d
 match d,a with
 |[x,y],a=>
  simp only[QY,List.map_nil,List.cons.injEq,Prod.mk.injEq,and_true]at a;obtain⟨⟨n,o,p⟩,q,r,s⟩:=a;simp[n,o,p,q,r,s,part,k,l,i,j]
 |[],a=>simp at a
 |[_],a=>simp at a
 |_::_::_::_,a=>simp at a
def Le.key(a:Le P t ti):jh P t pO:=
 jh.struct a.hu (λb c=>rfl) (λb c d=>a.equalIn 9998 b c d) (λe d f=>a.check 9998 e d f) (λg b=>by unfold pO;simp[Instr.sameBits]) λ{b c} a=>by
  unfold pO at a;simp only[Value.agg.injEq,Array.mk.injEq,List.cons.injEq,Value.int.injEq,and_true,true_and]at a;exact Prod.ext a.1 a.2
structure xA (P:Program) (t t2 ti:TypeId):Prop where
 two:Le P t2 ti
 hu:P.underlying t=some (.struct (P.fieldsOf t))
 hf:∃n1 n2,(P.fieldsOf t).toList.map (λf=>(f.name,f.type,f.offset))=[(n1,t2,0),(n2,ti,2)]/\n1≠ "_"/\n2≠ "_"
 hp:P.stoodInHeld t=false
 ag:vg P t2=true
 sz:(P.info? t2).map (·.size)=some 2
variable {t2:TypeId}
def xA.Tn(c:xA P t t2 ti)(b:Int×Int×Int)(a:World):(part t2 #[QH b.1,QH b.2.1,QH b.2.2] 0).run P a= .ok (pO (b.1,b.2.1)) a:=by
 obtain⟨h,d,e⟩:=Option.map_eq_some_iff.1 c.sz;have f:(isAgg t2).run P a= .ok true a:=dA _ _ _ c.ag ⟨_,c.two.hu⟩ a;have g:(sizeOf t2).run P a= .ok 2 a:=by simp[sizeOf,typeInfo,d,e]
 unfold part;simp[f,g,pO]
def xA.equalIn(e:xA P t t2 ti)(g:Nat)(a b:Int×Int×Int)(c:World):(Op.equalIn (g+3) t (D_ a) (D_ b)).run P c= .ok (a==b) c:=by
 obtain⟨A,B,d,i,j⟩:=e.hf;have k:=e.Tn a c;have l:=e.Tn b c;have h:=e.two.equalIn g (a.1,a.2.1) (b.1,b.2.1) c;have n:=run_equalIn_int (P:=P) c (g+1) ti .i64 .i64 a.2.2 b.2.2 e.two.ui;have o:(isAgg ti).run P c= .ok false c:=dA _ _ _ e.two.ag ⟨_,e.two.ui⟩ c;unfold D_;rw[run_equalIn_struct c (g+2) _ _ _ e.hu e.hp];generalize(P.fieldsOf t).toList=p at d
 match p,d with
 |[C,E],d=>
  simp only[QY,List.map_nil,List.cons.injEq,Prod.mk.injEq,and_true]at d;obtain⟨⟨q,r,s⟩,u,v,w⟩:=d;unfold Op.eqFields Op.eqFields Op.eqFields;rw[q,r,s,u,v,w];have x:(a==b)=(((a.1,a.2.1):Int×Int)==(b.1,b.2.1)&&a.2.2==b.2.2):=by
   show(a.1==b.1&&(a.2.1==b.2.1&&a.2.2==b.2.2))=((a.1==b.1&&a.2.1==b.2.1)&&a.2.2==b.2.2);rw[Bool.and_assoc]
  rw[x];have y:∀f:Int×Int×Int,(part ti #[QH f.1,QH f.2.1,QH f.2.2] 2).run P c= .ok (QH f.2.2) c:=λf=>by simp[part,o]
  cases m:((a.1,a.2.1):Int×Int)==(b.1,b.2.1)with
  |false=>
   rw[m]at h;simp[k,l,h,i,j]
  |true=>
   rw[m]at h;simp[k,l,h,n,y,i,j]
   by_cases z:a.2.2=b.2.2<;>simp[z]
 |[],d=>simp at d
 |[_],d=>simp at d
 |_::_::_::_,d=>simp at d
def xA.check(d:xA P t t2 ti)(e:Nat)(c:Int×Int×Int)(a:World)(f:Bool):(Instr.checkKey f (e+3) t (D_ c)).run P a= .ok () a:=by
 obtain⟨x,y,b,i,j⟩:=d.hf;have k:=d.Tn c a;have l:(isAgg ti).run P a= .ok false a:=dA _ _ _ d.two.ag ⟨_,d.two.ui⟩ a;have m:∀h:Int,(Instr.checkKey f (e+2) ti (QH h)).run P a= .ok () a:=λh=>by simp[Instr.checkKey,run_underlying d.two.ui]
 have n:=d.two.check e (c.1,c.2.1) a f;have o:(part ti #[QH c.1,QH c.2.1,QH c.2.2] 2).run P a= .ok (QH c.2.2) a:=by simp[part,l]
 unfold D_;have p:=d.hu;rw[show e+3=(e+2)+1 from rfl];unfold Instr.checkKey;rw[Sem.run_bind,run_underlying p,Result.andThen_ok];generalize z:P.fieldsOf t=g at b;obtain⟨g⟩:=g
 match g,b with
 |[A,B],b=>
  simp only[QY,List.map_nil,List.cons.injEq,Prod.mk.injEq,and_true]at b;obtain⟨⟨q,r,s⟩,u,v,w⟩:=b;simp[q,r,s,u,v,w,k,o,n,m,i,j]
 |[],b=>simp at b
 |[_],b=>simp at b
 |_::_::_::_,b=>simp at b
def xA.key(a:xA P t t2 ti):jh P t D_:=
 jh.struct a.hu (λb c=>rfl) (λb c d=>a.equalIn 9997 b c d) (λe d f=>a.check 9997 e d f) (λg b=>by unfold D_;simp[Instr.sameBits]) λ{b c} a=>by
  unfold D_ at a;simp only[Value.agg.injEq,Array.mk.injEq,List.cons.injEq,Value.int.injEq,and_true,true_and]at a;exact Prod.ext a.1 (Prod.ext a.2.1 a.2.2)
end
end Go.ax
namespace Go.Proofs.YtfchlbaidamodaaGreatDoor
open Go.ax
abbrev GC:Int×Int->Value:=pO
def NN:Le ZQ 39 3:=⟨kR,kR,⟨"Origin", "Seq",kR,dC,dC⟩,kR,kR,kR⟩
def Yw:jh ZQ 39 GC:=NN.key
abbrev sY:ah:=⟨0,0,0,[],0,0,0,0,0,0⟩
abbrev kK(a:ah)(b:Option Addr)(c d:Nat):Value:=.agg (aE a b c d).toArray
def Td:nu ZQ 177 39 59 (kK sY none 0 0):=⟨kR,kR⟩
def lq{e:World}{D:Nat->Prop}:∀{a:List Int} {cs:List Value},bT aP e D a cs↔cs=ints a/\∀x∈a,aN x
 |[],cs=>by simp[bT,ints]
 |x::a,cs=>by
  constructor
  ·rintro⟨i,j,rfl,⟨rfl,f⟩,g⟩
   obtain⟨rfl,h⟩:=lq.1 g;exact⟨rfl,λc b=>by rcases Q2.1 b with rfl|b;exact f;exact h c b⟩
  ·rintro⟨rfl,d⟩
   exact⟨[QH x],ints a,rfl,⟨rfl,d x (QV ..)⟩,lq.2 ⟨rfl,λc b=>d c (QJ _ b)⟩⟩
variable{X r:Array Value}{e:Int}{b3 s:List Int}{a3:List Value}{E a c i n:Nat}{f:Nat->Prop}{F:Nat×Nat}{d:Option Addr}{h:Program}{j:Type}{A g q:TypeId}{w:Value}{o u:Value->World->Prop}{b k:World}{y:World->Prop}{L l:ah}{H:aq}
def Te(j:aV aP g f b d a c s)(p:i<s.length)(q:aN e)(r:d=some ⟨n,E,none⟩)(k:∀h,aV aP g f h d a c (s.set i e)->aj (λn=>aI d=some n) b h->h.heap.size=b.heap.size->y h):PS b ⟨n,E+i,none⟩ (QH e) y:=by
 obtain⟨cs,D,t,u,v⟩:=j.body;obtain⟨rfl,l⟩:=lq.1 u;refine t.set (m:=i) (by rw[jQ];exact p) r λh w x o=>k h ⟨⟨_,D,w,lq.2 ⟨?_,?_⟩,v⟩,j.self,λn l=>by rw[o];exact j.aF n l⟩ x o
 ·unfold ints;rw[List.map_set]
 ·intro z m
  rcases List.mem_or_eq_of_mem_set m with m|rfl
  ·exact l z m
  ·exact q
def US(d:World)(D:Nat->Prop)(e:Value)(a:ah):Prop:=∃b c f,e=kK a b c f/\Row aP 8 d D b c a.aK/\a.Ok
def US.keep{S D:Nat->Prop}(c:US b D w l)(d:aj S b k)(e:∀a,D a->¬S a):US k D w l:=by
 obtain⟨f,g,h,i,j,m⟩:=c;exact⟨f,g,h,i,j.keep d e,m⟩
def US.mono{D a:Nat->Prop}(d:US b D w l)(e:∀c,D c->a c):US b a w l:=by
 obtain⟨f,g,h,i,j,k⟩:=d;exact⟨f,g,h,i,j.mono e,k⟩
def DH:sY.Ok:=by constructor<;>simp[aN]
def nh{D:Nat->Prop}(j:Row aP 8 b D d a l.aK)(v:∀e,D e->e<b.heap.size):
  Calls ZQ 142 #[kK l d a c] b (Ok λw k=>∃d a c G,w=kK l d a c/\Row aP 8 k G d a l.aK/\(∀e,G e->b.heap.size<=e/\e<k.heap.size)/\ai b k):=by
 have x:=j.d_;have y:=j.len;refine Ar (PA.mk λB p C g=>PA.mk λE h F m=>⟨_,_,_,ae (h.get g id) rfl,PC.ok (cH (j.af (p.then h)) λe f=>by have:=v e f;omega) ?_⟩);rintro _ H ⟨q,r,s,G,rfl,t,i,n⟩;have g:=i.get (h.get g id) id;have m:=i.get m id;refine⟨_,_,_,rfl,PS.mk g (by simp[aE]) λI o J z=>?_⟩;refine aw (cs:=aE l q r s) (bg _ _ _ _) z (aD (bg _ _ _ _) (o.get m oM) rfl λK u L A=>aw (bg _ _ _ _) A (Ok.mk ⟨q,r,s,G,rfl,?_,?_,?_⟩))
 ·refine(((t.keep o λe f=>?_).keep u λe f=>?_).row (bytes:=8) dC (by rw[<-y];exact x))
  ·have:=n e f;omega
  ·have:=n e f;omega
 ·intro e f
  have:=n e f;have:=t.aF e f;omega
 ·have M:=i.size
  exact((aj.new ((p.then h).then i) o λe f=>.inr oM).new u λe f=>.inr oM)
structure Tf where
 a:Option Addr
 n:Nat
 c:Nat
 r:Nat
 V:Nat->Prop
 D:Nat->Prop
 l:List ((Int×Int)×Value)
 L:List ((Int×Int)×ah)
structure sw (w:World) (p:Nat) (F:Nat->Prop) (S:aq) (q:Tf):Prop where
 at':w.heap[p]? =some (.cells #[.slice q.a q.n q.c,.map (some q.r),QH S.top] 179 (0,0))
 vec:aV aP 3 q.V w q.a q.n q.c S.vec
 map:cx w q.r GC q.l
 rel:fJ (US w q.D) q.l q.L
 key:∀x∈q.L,x.1=aO x.2
 Yb:(q.L.map (·.2)).Perm S.l
 aF:∀b,F b->b<w.heap.size
 sub:∀b,b=p\/b=q.r\/q.V b\/q.D b->F b
 Yc:p≠q.r
 WZ:¬q.V p/\¬q.V q.r
 Yd:¬q.D p/\¬q.D q.r
 Ze:∀b,q.V b->¬q.D b
def cV(b:World)(c:Nat)(d:Nat->Prop)(a:aq):Prop:=a.OK/\∃e,sw b c d a e
section
variable {w w' w1:World} {p:Nat} {F T:Nat->Prop} {S:aq} {q:Tf}
def sw.keep(a:sw w p F S q)(c:aj T w w')(e:∀b,F b->¬T b):sw w' p F S q:=
 ⟨c.get a.at' (e p (a.sub p (.inl rfl))),a.vec.keep c λb d=>e b (a.sub b (.inr (.inr (.inl d)))),a.map.keep c (e _ (a.sub _ (.inr (.inl rfl)))),
  a.rel.mono λg h f=>f.keep c λb d=>e b (a.sub b (.inr (.inr (.inr d)))),a.key,a.Yb,λb d=>Qk (a.aF b d) c.size,a.sub,a.Yc,a.WZ,a.Yd,a.Ze⟩
def sw.af(a:sw w p F S q)(b:ai w w'):sw w' p F S q:=a.keep b λ_ _ a=>a
def cV.keep(a:cV w p F S)(c:aj T w w')(d:∀b,F b->¬T b):cV w' p F S:=⟨a.1,a.2.imp λq e=>e.keep c d⟩
def cV.af(a:cV w p F S)(b:ai w w'):cV w' p F S:=a.keep b λ_ _ a=>a
def cV.aF(b:cV w p F S):∀a,F a->a<w.heap.size:=b.2.elim λq c=>c.aF
def sw.tidy(a:sw w p F S q):Tidy q.L:=by
 have:=a.map.tidy;unfold Tidy at*;rw[<-a.rel.keys];exact this
def sw.len(a:sw w p F S q):q.n=S.n:=by rw[a.vec.len dC,S.b_]
def sw.Ye(a:sw w p F S q)(b:S.OK):Row aP 8 w q.V q.a q.n S.vec:=a.vec.row dC (by rw[S.b_];have:=b.n;unfold aQ;omega)
def sw.look(b:sw w p F S q)(e:S.OK)(a:Int×Int):(ay q.l a=none/\S.get a=none)\/∃c d,ay q.l a=some c/\S.get a=some d/\US w q.D c d:=by
 rw[<-KR e b.key b.Yb b.tidy a];exact b.rel.ay a
def mi(a:cV w p F S):Calls ZQ 46 #[ZX p] w (Ok (qD aP 3 w S.vec)):=by
 obtain⟨b,q,a⟩:=a;refine xU ⟨p,0,rfl,_,_,_,ae a.at' rfl,PC.ok (cH (a.Ye b) λc d=>a.vec.aF c d) ?_⟩;rintro _ k ⟨e,f,g,G,rfl,h,i,j⟩;exact⟨_,_,_,rfl,Ok.mk ⟨e,f,g,G,rfl,h,i,j⟩⟩
def Iy(a:cV w p F S):Calls ZQ 90 #[ZX p] w (Ok λb w'=>b= QH S.top/\w=w'):=by
 obtain⟨c,q,a⟩:=a;exact xY ⟨p,0,rfl,_,ae a.at' rfl,Ok.mk ⟨rfl,rfl⟩⟩
def Tg(s:cV w p F S){D:Nat->Prop}(t:Row aP 8 w D d a l.aK)(he:l.Ok)(hn:l.aK.length=S.n){o:Nat}(ho:o<S.n):
  Calls ZQ 141 #[ZX p,kK l d a c,QH (o:Int)] w (Ok λm w'=>m= .bool (S.ly l o)/\ai w w'):=by
 obtain⟨u,q,s⟩:=s;have b1:=t.len;have hN:=u.n;refine vT (PA.mk λw1 k s1 M=>?_);have Z:=t.af k;obtain⟨v,x,h,ha,hx,-,hc⟩:=Z.mh (i:=o) oM;have N:l.aK.getD o 0=h:=by rw[QQ,hx];rfl
 refine⟨_,_,_,ae M rfl,v,x,ha,oM,oM,h,hc,al.dX (λy=>Ok.mk ⟨?_,k⟩) (λy=>?_)⟩
 ·unfold aq.ly;simp only[N,y];rfl
 have z:=s.af k;have f:∀{A:Bool} {w':World},ai w w'->(match S.get (o,h)with
  |none=>false
  |some e=>decide (e.aA<l.aA)&&(List.range e.aK.length).all λi=>decide (e.aK.getD i 0<=l.aK.getD i 0))=A->Ok (λm w'=>m= .bool (S.ly l o)/\ai w w') (.returned (.bool A)) w':=λ{A w'} hg hy=>by
  refine Ok.mk ⟨?_,hg⟩;unfold aq.ly;simp only[N];rw[<-hy,show(h==0)=false by simpa using y]
  rfl
 refine⟨p,0,rfl,_,ae z.at' rfl,nw (enc:=GC) (k:=((o:Int),h)) Td Yw z.map ?_⟩;rcases z.look u (o,h)with⟨B,j⟩|⟨m,e,B,j,O,n,P,rfl,a0,b2⟩
 ·rw[B]
  refine cu (sW sY none 0 0) ⟨_,rfl,PA.mk λw2 C s2 E=>aD (bg sY none 0 0) E rfl λH I s3 J=>al.tt rfl (f (k.then ((C.then (aj.refl _)).new I λv hb=>.inr oM)) ?_)⟩;rw[j]
 ·rw[B]
  refine cu (sW e O n P) ⟨_,rfl,PA.mk λw2 C s2 E=>aD (bg e O n P) E rfl λH I s3 J=>al.ff rfl ?_⟩;have K:ai w1 H:=(C.then (aj.refl _)).new I λv hb=>.inr oM;have r:=k.then K;have Q:=K.get M id;have a1:=aq.get_some j;have b3:e.aK.length=S.n:=by have:=im (u.TC e a1.1);omega
  refine⟨_,ae J rfl,_,ae Q rfl,al.dec (λhl=>f r ?_) (λhl=>?_)⟩
  ·rw[j]
   simp only[Bool.and_eq_false_iff,decide_eq_false_iff_not];left;omega
  have a2:=t.af r;have R:=a0.af K;have b6:=R.len;refine⟨_,_,_,ae J rfl,λT i w'=>∃b:Nat,i=b/\b<=n/\T=n-b/\(∀g,g<b->e.aK.getD g 0<=l.aK.getD g 0)/\H=w',⟨_,0,rfl,Qj _,rfl,λg L=>oM,rfl⟩,?_⟩;rintro T i _ _ ⟨b,rfl,hj,rfl,U,rfl⟩;refine al.dec (λb7=>?_) (λb8=>?_)
  ·obtain⟨b4,o4,V,a3,a4,-,a5⟩:=R.mh (i:=b) oM
   obtain⟨b5,o5,W,a6,a7,-,a8⟩:=a2.mh (i:=b) oM;have X:e.aK.getD b 0=V:=by rw[QQ,a4];rfl
   have Y:l.aK.getD b 0=W:=by rw[QQ,a7];rfl
   refine⟨b4,o4,a3,oM,oM,V,a5,_,_,_,ae Q rfl,b5,o5,a6,oM,oM,W,a8,al.dec (λa9=>f r ?_) (λb9=>?_)⟩
   ·rw[j]
    simp only[Bool.and_eq_false_iff];right;rw[List.all_eq_false];exact⟨b,by simp;omega,by rw[X,Y];simpa using a9⟩
   ·refine⟨_,oM,b+1,an oM,oM,rfl,λg L=>?_,rfl⟩
    by_cases b0:g=b
    ·subst b0;rw[X,Y];omega
    ·exact U g oM
  ·refine f r ?_
   rw[j];simp only[QK,List.all_eq_true,decide_eq_true_eq];exact⟨oM,λg L=>U g (by simp at L;omega)⟩
def TK(f:cV w p F S)(l:Int×Int):
  Calls ZQ 234 #[ZX p,GC l] w (Ok λA w'=>∃d e g G,A= .tuple #[kK ((S.get l).getD sY) d e g,.bool (S.get l).isSome]/\Row aP 8 w' G d e ((S.get l).getD sY).aK/\(∀a,G a->w.heap.size<=a/\a<w'.heap.size)/\ai w w'):=by
 obtain⟨M,q,f⟩:=f;obtain⟨j,k⟩:=l;refine yl (PA.mk λw1 N s1 m=>PA.mk λB C s2 v=>λn E=>?_);have x:ai B n:=E.keep;have s3:n.heap.size=B.heap.size:=by rw[E.heap]
 have m:=x.get (C.get m id) id;have v:=x.get v id;have H:=(N.then C).then x;have y:=f.af H;have a2:=f.map.lt;have a3:=aC f.at';obtain⟨c,d,e,g,a,h,i,I,O,P⟩:∃(c:ah) (d:Option Addr) (e g:Nat) (a:Bool),(ay q.l (j,k)).getD (kK sY none 0 0)=kK c d e g/\(ay q.l (j,k)).isSome=a/\(S.get (j,k)).getD sY=c/\(S.get (j,k)).isSome=a/\Row aP 8 n q.D d e c.aK:=by
  rcases y.look M (j,k)with⟨h,i⟩|⟨A,Q,h,i,R,T,U,rfl,V,a4⟩
  ·exact⟨sY,none,0,0,false,by rw[h];rfl,by rw[h];rfl,by rw[i];rfl,by rw[i];rfl,Row.nil _ _⟩
  ·exact⟨Q,R,T,U,true,by rw[h];rfl,by rw[h];rfl,by rw[i];rfl,by rw[i];rfl,V⟩
 have J:∀a,q.D a->a<w.heap.size:=λa b=>f.aF a (f.sub a (.inr (.inr (.inr b))));refine⟨λa=>a=n.heap.size,p,0,rfl,oM,_,ae y.at' rfl,oM,_,_,ae m rfl,ae m rfl,cu (sW c d e g) ⟨a,λw' W=>?_,PA.mk λw4 o s4 X=>⟨ai.keep o,aD (bg c d e g) X rfl λw5 r s5 Y=>⟨r,?_⟩⟩⟩⟩
 ·have:=eY Td Yw (y.map.keep W oM) (j,k) true
  rw[h,i]at this;exact this
 have Z:=(P.af o).keep r λa b hn=>by have:=J a b;omega
 refine aw (bg c d e g) Y (PC.ok (nh Z λa b=>by have:=J a b;omega) ?_);rintro _ w6 ⟨s,t,u,G,rfl,a0,K,z⟩;have a1:=z.get (r.get (o.get v id) oM) id;have z6:=z.size;refine cu (sW c s t u) ⟨rfl,aD (bg c s t u) a1 rfl λw7 L s7 g7=>aw (bg c s t u) g7 (Ok.mk ⟨s,t,u,G,by rw[I,O],?_,?_,?_⟩)⟩
 ·rw[I];exact a0.keep L λa b hn=>by have:=K a b;omega
 ·intro a b;have:=K a b;omega
 ·exact(((H.then o).new r λa b=>.inr oM).then z).new L λa b=>.inr oM
end
section
variable {w w' w1:World} {p:Nat} {F T:Nat->Prop} {S:aq} {q:Tf}
def Fg{S:aq}:((List.range a).any λb=>!S.ly l b)=false↔∀b,b<a->S.ly l b=true:=by
 simp[List.any_eq_false]
def vH(g:cV w p F S){e:ah}{D:Nat->Prop}(B:Row aP 8 w D d a e.aK)(hD:∀b,D b->b<w.heap.size/\¬F b)(he:e.Ok)(hl:S.l.length<4611686018427387904):
  Calls ZQ 75 #[ZX p,kK e d a c] w (Ok λC w'=>C= QH (S.add e).1/\∃E,cV w' p E (S.add e).2/\de F w E w'):=by
 have fz:=g;obtain⟨H,q,g⟩:=g;have hN:=H.n;have b2:=g.len;have i9:=aC g.at';have j0:=g.map.lt;have d3:=g.Ye H;have h:∀{no:Int} {w':World},ai w w'->S.add e=(no,S)->Ok (λC w'=>C= QH (S.add e).1/\∃E,cV w' p E (S.add e).2/\de F w E w') (.returned (QH no)) w':=λ{no w'} hg ha=>by
  refine Ok.mk ⟨by rw[ha],F,?_,ai.keep hg,λb f=>.inl f⟩;rw[ha];exact fz.af hg
 refine xW (PA.mk λw1 k1 s1 g1=>λw2 d2=>?_);have k2:ai w1 w2:=d2.keep;have s2:w2.heap.size=w1.heap.size:=by rw[d2.heap]
 have O:=k1.then k2;have g2:=k2.get g1 id;have h4:=g.af O;refine aw (bg e d a c) g2 ⟨p,0,rfl,_,_,_,ae h4.at' rfl,PC.ok (zj (B.af O) (by rw[b2];omega)) ?_⟩;rintro _ w3 ⟨rfl,P⟩;rw[b2];refine⟨_,rfl,al.dw (λI=>h (O.then P) ?_) (λQ=>?_)⟩
 ·rw[aq.add_def,if_pos I]
 obtain⟨c1,c5,c3,c6,c7,c8,c9,f0,f1,j1⟩:=im Q;obtain⟨o,r⟩:∃o:Nat,e.origin=o:=⟨e.origin.toNat,oM⟩
 have J:o<S.n:=oM
 intro w4 d4;have k4:ai w3 w4:=d4.keep;have s4:w4.heap.size=w3.heap.size:=by rw[d4.heap]
 have d5:=(O.then P).then k4;have z3:=P.size;have g4:=k4.get (P.get g2 id) id;have b3:=g.af d5;obtain⟨s,a5,n5,d6,b,n,K,k⟩:∃(s:ah) (d:Option Addr) (a c:Nat) (b:Bool),(ay q.l (aO e)).getD (kK sY none 0 0)=kK s d a c/\(ay q.l (aO e)).isSome=b/\(S.get (aO e)).isSome=b:=by
  rcases b3.look H (aO e)with⟨n,K⟩|⟨C,a0,n,K,b8,n3,c3,rfl,j2,j3⟩
  ·exact⟨sY,none,0,0,false,by rw[n];rfl,by rw[n];rfl,by rw[K];rfl⟩
  ·exact⟨a0,b8,n3,c3,true,by rw[n];rfl,by rw[n];rfl,by rw[K];rfl⟩
 refine⟨λb=>b=w4.heap.size,p,0,rfl,oM,_,ae b3.at' rfl,oM,_,_,ae g4 rfl,ae g4 rfl,cu (sW s a5 n5 d6) ⟨b,λw' L=>?_,PA.mk λw5 k5 s5 g5=>⟨ai.keep k5,aD (bg s a5 n5 d6) g5 rfl λw6 k6 s6 g6=>⟨k6,?_⟩⟩⟩⟩
 ·have:=eY Td Yw (b3.map.keep L oM) (aO e) true
  rw[n,K]at this;exact this
 have R:ai w w6:=(d5.then k5).new k6 λb f=>.inr oM;have b4:=k6.get (k5.get g4 id) oM;have h5:=g.af R;refine al.mk (λt=>h R ?_) (λhf=>?_)
 ·rw[aq.add_def,if_neg (by simpa using Q),if_pos (by rw[k,t])]
 obtain⟨c2,o8,x8,h6,d8,-,h7⟩:=(d3.af R).mh (i:=o) oM;have d9:x8=(S.sX o:Int):=by rw[S.my J]at d8;exact(XJ d8).symm
 subst d9;have j4:=S.Mq o;refine⟨_,ae b4 rfl,p,0,rfl,_,_,_,ae h5.at' rfl,_,ae b4 rfl,c2,o8,h6,c1,oM,_,by rw[r];exact h7,λw7 d7=>?_⟩;have k7:ai w6 w7:=d7.keep;have s7:w7.heap.size=w6.heap.size:=by rw[d7.heap]
 have b5:=R.then k7;rw[an oM];refine al.dw (λI=>h b5 ?_) (λe0=>?_)
 ·rw[aq.add_def,if_neg (by simpa using Q),if_neg (by rw[k,hf];simp),if_pos]
  rw[r,Qx,S.iJ J];simpa using I
 have h8:=g.af b5;have h9:=k7.get b4 id;have c4:e.seq=S.vec.getD e.origin.toNat 0+1:=by rw[r,Qx,S.iJ J];simpa using e0
 have l:∀{a1:Int×aq},(if(List.range S.n).any λo=>!S.ly e o then((9:Int),S)else(0,⟨S.n,dO e S.l⟩))=a1->S.add e=a1:=λ{a1} B=>by
  rw[aq.add_def,if_neg (by simpa using Q),if_neg (by rw[k,hf];simp),if_neg (by simpa using c4)];exact B
 refine⟨p,0,rfl,_,_,_,ae h8.at' rfl,λa3 i w'=>∃j:Nat,i=j/\j<=S.n/\a3=S.n-j/\(∀m,m<j->S.ly e m=true)/\ai w7 w',⟨_,0,rfl,Qj _,rfl,λm t=>oM,aj.refl _⟩,?_⟩;rintro a3 i _ w8 ⟨j,rfl,hj,rfl,a4,T⟩;have U:=b5.then T;have e1:=T.get h9 id;have z8:=T.size;rw[b2];refine al.dec (λj5=>?_) (λj6=>?_)
 ·refine aw (bg e d a c) e1 (PC.ok (Tg (fz.af U) (B.af U) he oM (o:=j) oM) ?_)
  rintro _ w9 ⟨rfl,k9⟩;refine⟨_,rfl,al.not (al.mk (λL=>?_) (λL=>h (U.then k9) (l (if_pos ?_))))⟩
  ·refine⟨_,oM,j+1,an oM,oM,rfl,λm t=>?_,T.then k9⟩
   by_cases i0:m=j
   ·rw[i0];exact L
   ·exact a4 m oM
  ·rw[List.any_eq_true]
   exact⟨j,by simp;omega,by rw[L];rfl⟩
 ·have a6:=l (if_neg (by rw[Bool.not_eq_true,Fg];intro m t;exact a4 m oM))
  intro e2 e3;have e4:ai w8 e2:=e3.keep;have j7:e2.heap.size=w8.heap.size:=by rw[e3.heap]
  have M:=U.then e4;have V:=e4.get e1 id;have e5:=g.af M;have i1:=(B.af M)
  refine⟨λb=>b=q.r,p,0,rfl,g.Yc,_,ae e5.at' rfl,oM,_,_,ae V rfl,ae V rfl,aw (bg e d a c) V (PC.ok (nh i1 λb f=>by have:=(hD b f).1;have:=M.size;omega) ?_)⟩;rintro _ i2 ⟨b7,b9,c0,G,rfl,e6,hG,W⟩;have a7:=M.then W;have X:=g.af a7;have i8:=M.size;refine cu (sW e b7 b9 c0) ⟨rfl,ai.keep W,jz (enc:=GC) (k:=aO e) Td Yw X.map λe7 e8 u j8=>⟨u,λe9 f2=>?_⟩⟩;have v:ai e7 e9:=f2.keep;have j9:e9.heap.size=e7.heap.size:=by rw[f2.heap]
  have a8:=v.get (u.get X.at' g.Yc) id;have a9:=v.get (u.get (W.get V id) oM) id;have b0:=(X.vec.keep u λb f e=>g.WZ.2 (e▸f)).af v;obtain⟨f3,f4,i3,a2,b1,-,f5⟩:=(b0.row (bytes:=8) dC (by rw[S.b_];unfold aQ;omega)).mh (i:=o) oM;have d0:i3=(S.sX o:Int):=by rw[S.my J]at b1;exact(XJ b1).symm
  subst d0;refine⟨p,0,rfl,_,_,_,ae a8 rfl,_,ae a9 rfl,f3,f4,a2,c1,oM,_,by rw[r];exact f5,f3,f4,a2,c1,oM,?_⟩;rw[r,Qx,an oM];refine Te b0 (by rw[S.b_];exact J) (by unfold aN;omega) a2 λf6 g0 N k0=>λg3 g7=>?_;have x:ai f6 g3:=g7.keep;have l0:g3.heap.size=f6.heap.size:=by rw[g7.heap]
  have y:∀b,aI q.a=some b->q.V b:=λb f=>g.vec.self b f;have i4:¬aI q.a=some p:=λe=>g.WZ.1 (y p e);have i5:¬aI q.a=some w.heap.size:=λe=>by have:=g.vec.aF _ (y _ e);omega
  have b6:=x.get (N.get a8 i4) id;have g8:=x.get (N.get a9 i5) id;refine⟨p,0,rfl,_,ae b6 rfl,_,ae g8 rfl,p,0,rfl,PS.mk b6 sM λg9 Y l3 i6=>?_⟩;have l4:=W.size;have i7:¬aI q.a=some q.r:=λe=>g.WZ.2 (y _ e);refine Ok.mk ⟨by rw[a6],λb=>F b\/G b,?_,?_,?_⟩
  rotate_left
  ·have Z:aj F w g9:=((((ai.keep a7).then (u.mono λb _ f=>g.sub b (.inr (.inl f)))).then (ai.keep v)).then ((N.mono λb _ f=>g.sub b (.inr (.inr (.inl (y b f))))).then (ai.keep x))).then (Y.mono λb _ f=>g.sub b (.inl f))
   exact Z
  ·intro b f;rcases f with f|f
   ·exact .inl f
   ·exact .inr (by have:=hG b f;omega)
  have h3:=(aq.Bn H he).1;rw[a6]at h3⊢;have z:∀b,G b->b≠p/\b≠q.r/\¬q.V b:=λb f=>by
   have:=hG b f;refine⟨oM,oM,λhv=>?_⟩;have:=g.vec.aF b hv;omega
  refine⟨h3,⟨q.a,q.n,q.c,q.r,q.V,λb=>q.D b\/G b,aJ q.l (aO e) (kK e b7 b9 c0),aJ q.L (aO e) e⟩,?_,?_,?_,?_,?_,?_,?_,?_,g.Yc,g.WZ,?_,?_⟩
  ·have t:(if e.aA>S.top then e.aA else S.top)=max S.top e.aA:=by split<;>omega
   rw[i6,aq.UT,<-t];rfl
  ·rw[show aq.vec ⟨S.n,dO e S.l⟩=S.vec.set o ((S.sX o+1:Nat):Int) by rw[aq.UU S e r];simp]
   exact(g0.af x).keep Y λb f e=>g.WZ.1 (e▸f)
  ·exact(((e8.af v).keep N i7).af x).keep Y λe=>g.Yc e.symm
  ·have Z:aj (λb=>b=q.r\/aI q.a=some b\/b=p) i2 g9:=((u.mono λb _ f=>.inl f).then (ai.keep v)).then (((N.mono λb _ f=>.inr (.inl f)).then (ai.keep x)).then (Y.mono λb _ f=>.inr (.inr f)))
   have hd:∀b,q.D b\/G b->¬(b=q.r\/aI q.a=some b\/b=p):=by
    rintro b (f|f) (e|e|e)
    ·exact g.Yd.2 (e▸f)
    ·exact g.Ze b (y b e) f
    ·exact g.Yd.1 (e▸f)
    ·exact(z b f).2.1 e
    ·exact(z b f).2.2 (y b e)
    ·exact(z b f).1 e
   refine fJ.aJ ⟨b7,b9,c0,rfl,(e6.mono λb f=>.inr f).keep Z hd,he⟩ (X.rel.mono λC f7 hu=>(hu.mono λb f=>.inl f).keep Z hd)
  ·intro s k
   rcases fG k with rfl|k
   ·rfl
   ·exact g.key s k
  ·have d1:ay q.L (aO e)=none:=by
    rw[KR H g.key g.Yb g.tidy];have:=k.trans hf;simpa using this
   have:∀A:List ((Int×Int)×ah),ay A (aO e)=none->aJ A (aO e) e=A++[(aO e,e)]:=by
    intro A
    induction A with
    |nil=>intro _;rfl
    |cons a0 A ih=>
     intro hL;obtain⟨y1,y2⟩:=a0;unfold ay at hL;unfold aJ;split at hL
     ·cases hL
     ·rename_i I
      rw[if_neg I,ih hL];rfl
   rw[this _ d1,Q3];exact(List.perm_append_comm.trans (List.Perm.cons e g.Yb)).trans (cX e S.l).symm
  ·intro b f
   rcases f with f|f
   ·have:=g.aF b f;omega
   ·have:=hG b f;omega
  ·rintro b (f|f|f|f|f)
   ·exact .inl (g.sub b (.inl f))
   ·exact .inl (g.sub b (.inr (.inl f)))
   ·exact .inl (g.sub b (.inr (.inr (.inl f))))
   ·exact .inl (g.sub b (.inr (.inr (.inr f))))
   ·exact .inr f
  ·refine⟨?_,?_⟩
   ·rintro(f|f)
    ·exact g.Yd.1 f
    ·exact(z _ f).1 rfl
   ·rintro(f|f)
    ·exact g.Yd.2 f
    ·exact(z _ f).2.1 rfl
  ·rintro b hv (f|f)
   ·exact g.Ze b hv f
   ·exact(z _ f).2.2 hv
def UW{e b:TypeId}(i:jP h e b 1 8)(f:(h.info? b).bind (·.zero)=some (QH 0))(j:a<=c)(d:c*8<=aQ){w:World}(g:∀w',aV aP b (·=w.heap.size) w' (ZZ w.heap.size) a c (List.replicate a 0)->ai w w'->w'.heap.size=w.heap.size+1->o (.slice (ZZ w.heap.size) a c) w'):
  aH h (Instr.makeSlice e (QH (a:Int)) (QH (c:Int))) w o u:=by
 unfold aQ at d;obtain⟨n,p,k,l,q,r,z⟩:=i.info;have s:p= QH 0:=by
  rw[k]at f;simp only[Option.bind_some,l]at f;exact XJ f
 subst s;have m:=run_make (P:=h) w e b n _ i.under k l .i64 .i64 a c oM oM (by rw[r];omega) oM;rw[Qx,Qx,q,Nat.mul_one]at m;have t:ai w (w.alloc (.cells (madeCells (Value.int .i64 0).cells c) b)):=aj.alloc w _;have v:(madeCells (Value.int .i64 0).cells c).toList=List.replicate c (QH 0):=by
  unfold madeCells;rw[Array.toList_map];apply List.ext_getElem
  ·simp
  ·intro A B C
   simp[Value.cells,Nat.mod_one]
 refine aH.mk m (g _ ⟨⟨List.replicate a (QH 0),λ_=>False,⟨⟨by simp[aP,flat],.inr ⟨w.heap.size,c,_,rfl,Qj _,heap_alloc_new w _,j,by unfold maxLen;omega,by simp[size_madeCells,aP,flat],?_⟩⟩⟩,?_,λ_ g=>g.elim⟩,λx d=>by simpa[aI]using d.symm,λx d=>by subst d;simp⟩ t sM)
 ·rw[v]
  simp only[aP,flat,Nat.mul_one,List.take_replicate];rw[X2 j]
 ·exact lq.2 ⟨by simp[ints],λE y=>by rw[List.eq_of_mem_replicate y];simp[aN]⟩
def GX(h:a<=64):Calls ZQ 72 #[QH (a:Int)] w (Ok λi w'=>∃p F,i= ZX p/\cV w' p F ⟨a,[]⟩/\(∀b,F b->w.heap.size<=b)/\ai w w'):=by
 refine Ho (UW tN kR (Q4 _) (by unfold aQ;omega) λw1 j k s=>⟨_,_,_,rfl,PA.mk λf g t l=>PA.mk λm d u n=>Ok.mk ⟨_,λb=>w.heap.size<=b/\b<m.heap.size,rfl,⟨aq.uk h,⟨_,a,a,w1.heap.size,(·=w.heap.size),λ_=>False,[],[]⟩,n,?_,cx.new (d.get l id),trivial,sM,List.Perm.refl _,λb c=>c.2,?_,by show f.heap.size≠w1.heap.size;omega,⟨by show f.heap.size≠_;omega,by show w1.heap.size≠_;omega⟩,⟨id,id⟩,λ_ _ o=>o⟩,λb c=>c.1,(k.then g).then d⟩⟩)
 ·have q:aq.vec ⟨a,[]⟩=List.replicate a 0:=by
   apply X3;intro r
   by_cases e:r<a
   ·rw[aq.my ⟨a,[]⟩ e];simp[e,aq.sX]
   ·rw[Q7 (by rw[aq.b_];exact Nat.le_of_not_lt e),Q7 (by simp;omega)]
  rw[q];exact(j.af g).af d
 ·rintro b (rfl|rfl|rfl|c)
  ·show _/\_;omega
  ·show _<=w1.heap.size/\w1.heap.size<_;omega
  ·omega
  ·exact c.elim
end
def fh{c:kM j}{p n:Nat}{s:List j}{bytes:Nat}{x:j}(m:aV c g f b d p n s)(K:jP h q g c.k bytes)(O:b.heap[a]? =some (.cells r g F)){D:Nat->Prop}(B:c.rep b D x r.toList)(t:∀e,D e->e<b.heap.size/\aI d≠some e)(i:(s.length+1)*bytes<=aQ)(P:s.length+1<=maxLen)(C:∀v l H w,aV c g w H v (p+1) l (s++[x])->aj (λI=>aI d=some I) b H->(∀e,w e->f e\/D e\/b.heap.size<=e)->o (.slice v (p+1) l) H):
  aH h (Builtin.append_ #[q,q] A #[.slice d p n,.slice (ZZ a) 1 1]) b o u:=by
 have L:=m.len K.pos;obtain⟨cs,Q,R,S,y⟩:=m.body;have V:=c.len B;refine AT K (news:=r.toList) R O (by rw[Qz oM]) oM (c.one B) (by rw[L];exact i) (by rw[L];exact P) λv T z M N E=>?_;have J:aj (λI=>aI d=some I) b z:=(N.mono λ_ _ m=>m.symm)
 let w:Nat->Prop:=λe=>f e\/D e\/(b.heap.size<=e/\e<z.heap.size)
 have W:b.heap.size<=z.heap.size:=N.size;refine C v T z w ⟨⟨_,λe=>Q e\/D e,M,bT.append ((S.keep J λe i=>(y e i).2).mono λe i=>.inl i) (bT.one (c.mono (c.keep B J λe i=>(t e i).2) λe i=>.inr i)),?_⟩,?_,?_⟩ J ?_
 ·intro e i
  have X:e<b.heap.size:=i.elim (λk=>m.aF e (y e k).1) λk=>(t e k).1;refine⟨i.elim (λk=>.inl (y e k).1) λk=>.inr (.inl k),?_⟩;rcases E with E|E
  ·rw[E];exact i.elim (λk=>(y e k).2) λk=>(t e k).2
  ·rw[E];intro U;cases U;omega
 ·intro e i
  rcases E with E|E
  ·exact .inl (m.self e (E▸i))
  ·have:=M.lt i
   rw[E]at i;cases i;exact .inr (.inr ⟨oM,this⟩)
 ·rintro e (i|i|i)
  ·have:=m.aF e i;omega
  ·have:=(t e i).1;omega
  ·exact i.2
 ·rintro e (i|i|i)
  ·exact .inl i
  ·exact .inr (.inl i)
  ·exact .inr (.inr i.1)
def ND{D k:Nat->Prop}(f:Row aP 8 b D d a s)(g:Row aP 8 b k d a b3):s=b3:=by
 have p:=f.len;have q:=g.len;apply List.ext_getElem oM;intro i l m;obtain⟨r,t,u,n,h,-,o⟩:=f.mh (i:=i) oM;obtain⟨v,w,x,c,j,-,e⟩:=g.mh (i:=i) oM;rw[n]at c;cases c
 rw[o]at e;cases e
 rw[Qq l]at h;rw[Qq m]at j;rw[XJ h,XJ j]
def _root_.Go.ax.fJ.Zn{g h k:Type}{i:h->k->Prop}{l:g}{m:h}:∀{j d:List (g×h)} {c:List (g×k)},fJ i (j++(l,m)::d) c->∃e b f,c=e++(l,b)::f/\i m b/\fJ i (j++d) (e++f)
 |[],d,(n,b)::c,a=>⟨[],b,c,by rw[a.1];rfl,a.2.1,a.2.2⟩
 |(r,s)::j,d,(n,o)::c,a=>by
  obtain⟨e,b,f,rfl,p,q⟩:=Go.ax.fJ.Zn a.2.2;exact⟨(n,o)::e,b,f,rfl,p,a.1,a.2.1,q⟩
section
def DQ(d:World)(D:Nat->Prop)(e:aq)(f:List Value)(a:ah):Prop:=∃b c g,f=[kK a b c g]/\Row aP 8 d D b c a.aK/\a.Ok/\a∈e.l
def sx{b c:Type}(d:b->c->Prop):List b->List c->Prop
 |[],[]=>True
 |a::e,f::g=>d a f/\sx d e g
 |_,_=>False
def sx.snoc{a b:Type}{c:a->b->Prop}{d:a}{e:b}(f:c d e):∀{g:List a} {h:List b},sx c g h->sx c (g++[d]) (h++[e])
 |[],[],_=>⟨f,trivial⟩
 |_::_,_::_,i=>⟨i.1,sx.snoc f i.2⟩
def sx.length{a b:Type}{e:a->b->Prop}:∀{c:List a} {d:List b},sx e c d->c.length=d.length
 |[],[],_=>rfl
 |_::_,_::_,f=>by simp[sx.length f.2]
def DQ.unique{D:Nat->Prop}(c:DQ b D H a3 l)(d:DQ b D H a3 L):l=L:=by
 obtain⟨g,h,i,rfl,e,-,-⟩:=c;obtain⟨j,k,m,a,f,-,-⟩:=d;simp only[aE,List.cons.injEq,Value.agg.injEq,Array.mk.injEq,Value.int.injEq,XX,and_true,true_and]at a;obtain⟨n,o,p,⟨rfl,rfl,rfl⟩,q,r,s,t,u,v⟩:=a;have:=ND e f
 cases l;cases L;simp_all
def sx.unique{b:World}{D:Nat->Prop}{c:aq}:∀{a:List (List Value)} {d e:List ah},sx (DQ b D c) a d->sx (DQ b D c) a e->d=e
 |[],[],[],_,_=>rfl
 |_::_,_::_,_::_,f,g=>by rw[f.1.unique g.1,sx.unique f.2 g.2]
variable {w w9 w1 A B:World} {p bo:Nat} {F:Nat->Prop} {S:aq} {q:Tf} {Pr:ah->Bool} {s:World×(Nat->Prop)} {pre:List (List Value)}
structure SJ (w9:World) (bo:Nat) (D:Nat->Prop) (S:aq) (Pr:ah->Bool) (s:World×(Nat->Prop)) (pre:List (List Value)) (A:World):Prop where
 keep:aj (·=bo) w9 A
 own:aj (et s.2) s.1 A
 out:∀b,s.2 b->b≠w9.heap.size/\b≠w9.heap.size+1/\b≠bo
 aF:∀b,s.2 b->b<A.heap.size
 d_:w9.heap.size+2<=A.heap.size
 pG:∃a n c G L,A.heap[bo]? =some (.cells #[.slice a n c] 50 (0,0))/\aV fZ 59 G A a n c (L.filter Pr)/\(∀b,G b->w9.heap.size+2<=b/\¬s.2 b)/\sx (DQ w9 D S) pre L/\L.length<=S.l.length
def SJ.af(b:SJ w9 bo q.D S Pr s pre A)(a:ai A B):SJ w9 bo q.D S Pr s pre B:=by
 obtain⟨c,d,e,f,g,h,i,j,G,k,l,m,n,o⟩:=b;exact⟨c.af a,d.af a,e,λp r=>Qk (f p r) a.size,Xx g a.size,h,i,j,G,k,a.get l id,m.af a,n,o⟩
def SJ.fr(u:bo<w9.heap.size)(d:SJ w9 bo q.D S Pr s pre A)(g:qV (w9.heap.size+1) A B):SJ w9 bo q.D S Pr s pre B:=by
 obtain⟨h,i,e,j,v,k,l,m,G,n,o,p,f,r⟩:=d;obtain⟨c,w⟩:=g;exact⟨h.new c λa b=>.inr oM,i.trans c (λ_ _ d=>d) λa _ b t=>(e a t).2.1 b,e,λa b=>by have:=j a b;omega,oM,k,l,m,G,n,c.get o oM,p.keep c λa b x=>by have:=(f a b).1;omega,f,r⟩
def SJ.re(a:SJ w9 bo q.D S Pr s pre A):SJ w9 bo q.D S Pr (A,s.2) pre A:=⟨a.keep,aj.refl _,a.out,a.aF,a.d_,a.pG⟩
def Th{R:World->Prop}(c1:bo<w9.heap.size)(hS:S.OK)(g:sw w9 p F S q)(w:∃e a3,w9.heap[a]? =some (.cells #[.map (some q.r)] e a3))(x:a≠bo)(y:¬F bo)(z:∀A B,R A->aj (oF w9) A B->R B)(hy:∀s pre o A,SJ w9 bo q.D S Pr s pre A->R A->uw [kK sY none 0 0] o->(pre.length<S.l.length/\∃e,DQ w9 q.D S o e)->ks ZQ (w9.heap.size+1) o A λb C=>b=true/\SJ w9 bo q.D S Pr s (pre++[o]) C/\R C)(r:SJ w9 bo q.D S Pr (w9,no) [] w1)(a7:R w1):
  Calls ZQ 205 #[.func (.yield (w9.heap.size+1)) #[] #[],ZX a] w1 (Ok λa4 h=>R h/\∃s m,SJ w9 bo q.D S Pr s m h/\∃t,sx (DQ w9 q.D S) m t/\t.Perm S.l):=by
 obtain⟨e2,f2,w⟩:=w;have c2:=g.map.lt;have a8:sw w1 p F S q:=g.keep r.keep λb c e=>y (e▸c);have hD:∀b,q.D b->b<w9.heap.size/\b≠bo:=λb c=>⟨g.aF b (g.sub b (.inr (.inr (.inr c)))),λe=>y (e▸g.sub b (.inr (.inr (.inr c))))⟩
 have c3:=r.d_;have c4:q.r≠bo:=λe=>y (e▸g.sub _ (.inr (.inl rfl)));refine dT ⟨_,ae (r.keep.get w x) rfl,mapRange Td a8.map λO b0 u s6=>?_⟩;obtain⟨j1,j2,j3,jd,j5,ja,jn,jc,G0,L0,j4,P,Q,j8⟩:=r;have b1:SJ w9 bo q.D S Pr (O,λb=>b=w1.heap.size\/b=q.r) [] O:=by
  refine⟨j1.af u,aj.refl _,λb c=>by rcases c with rfl|rfl<;>omega,λb c=>by rcases c with rfl|rfl<;>omega,oM,ja,jn,jc,G0,L0,u.get j4 id,P.af u,λb c=>⟨(Q b c).1,λe=>?_⟩,j8⟩;rcases e with rfl|rfl
  ·have:=P.aF _ c;omega
  ·have:=(Q _ c).1;omega
 refine⟨λT h=>∃pre left d l,T=left.length/\dj h w1.heap.size q.r GC q.l left/\fJ (US w9 q.D) left d/\sx (DQ w9 q.D S) pre l/\(l++d.map (·.2)).Perm S.l/\SJ w9 bo q.D S Pr (h,λb=>b=w1.heap.size\/b=q.r) pre h/\R h,
  ⟨_,[],q.l,q.L,[],rfl,b0,g.rel,trivial,by simpa using g.Yb,b1,z _ _ a7 (ai.keep u)⟩,?_⟩
 rintro T _ c5 ⟨pre,left,d,l,rfl,hr,U,E,H,V,W⟩;refine nX hr (λh0=>.inl ⟨rfl,?_⟩) (λc6 a4 l1 l2 I a6 a9 b2 v c7=>.inr ⟨_,_,rfl,?_⟩)
 ·subst h0
  obtain rfl:d=[]:=by
   have:=U.length;simp at this;exact QW this.symm
  exact Ok.mk ⟨W,_,pre,V,l,E,by simpa using H⟩
 subst a6;obtain⟨X,f,Y,rfl,⟨i,j,k,rfl,Z,a0⟩,b3⟩:=U.Zn;have a1:f∈S.l:=H.mem_iff.1 sM;have a2:((l++[f])++(X++Y).map (·.2)).Perm S.l:=by
  refine List.Perm.trans ?_ H;simp only[Q3,QY,XQ,List.singleton_append];exact List.Perm.append_left _ List.perm_middle.symm
 have b4:pre.length<S.l.length:=by
  have J:=a2.length_eq;have x:=E.length;simp at J;omega
 have b5:SJ w9 bo q.D S Pr (I,λb=>b=w1.heap.size\/b=q.r) pre I:=by
  obtain⟨J,x,h3,hd,h5,i,j,k,G,t,h4,h6,h7,h8⟩:=V;exact⟨J.new v λb c=>.inr oM,aj.refl _,h3,λb c=>by have:=hd b c;omega,oM,i,j,k,G,t,v.get h4 (λe=>(h3 _ (.inl rfl)).2.2 e.symm),h6.keep v λb c e=>(h7 b c).2 (.inl e),h7,h8⟩
 have b6:=z _ _ W (v.mono λb _ c=>(⟨oM,oM⟩:oF w9 b));refine ry b2 ⟨_,_,_,_,_,_,_,_,_,_,_,_,_,rfl,PA.mk λc8 K c9 b7=>aD (bg f i j k) b7 rfl λa5 L d0 b8=>aw (bg f i j k) b8 ⟨_,rfl,(hy _ pre _ a5 ((b5.af (K.new L λb c=>.inr oM)).re) ?_ ?_ ⟨b4,f,i,j,k,rfl,Z,a0,a1⟩).mono ?_⟩⟩
 ·exact z _ _ b6 (ai.keep (K.new L λb c=>.inr oM))
 ·exact λφ M=>M f.origin f.seq f.aA i j k f.bd f.agg f.field f.op f.arg f.key
 ·rintro _ C ⟨rfl,n,b9⟩
  have c0:ai I a5:=K.new L λb c=>.inr oM;refine al.ff rfl ⟨_,?_,pre++[_],l1++l2,X++Y,l++[f],rfl,(a9.af c0).keep n.own (λN=>N (.inl rfl)) (λN=>N (.inr rfl)),b3,E.snoc ⟨i,j,k,rfl,Z,a0,a1⟩,a2,n.re,b9⟩;simp
def DS(e:cV w p F S)(hl:S.l.length<=20000000)(hg:enters ZQ a=true)(hp:∀d k z N D w1,ai w w1->Row aP 8 w1 D k z d.aK->d.Ok->d∈S.l->Calls ZQ a (r++ #[kK d k z N]++X) w1 (Ok λC E=>C= .bool (Pr d)/\ai w1 E)):
  Calls ZQ 80 #[ZX p,.func (.func a) r X] w (Ok (qD fZ 59 w (S.l.filter Pr))):=by
 have fz:=e;obtain⟨W,q,e⟩:=e;refine wo (PA.mk λl k3 s3 g3=>PA.mk λO k4 s4 g4=>?_);have b4:=k3.then k4;have c7:=e.af b4;refine⟨p,0,rfl,_,ae c7.at' rfl,PC.ok (φ:=λC E=>C= .func (.func 205) #[] #[ZX O.heap.size]/\(∃d c8,E.heap[O.heap.size]? =some (.cells #[.map (some q.r)] d c8))/\ai O E/\E.heap.size=O.heap.size+1)
  (eu (PA.mk λw5 H s5 g5=>Ok.mk ⟨rfl,⟨_,_,g5⟩,H,s5⟩)) ?_⟩
 rintro _ w9 ⟨rfl,c9,Y,s9⟩;have Z:=b4.then Y;have b5:=e.af Z;have hw:=e.aF;have b6:=aC e.at';have d0:=Y.get (k4.get g3 id) id;have d1:=Y.get g4 id;have b7:¬F l.heap.size:=λhf=>by have:=hw _ hf;omega
 have a0:l.heap.size<w9.heap.size:=oM
 refine⟨_,rfl,205,_,rfl,kR,World×(Nat->Prop),(w9,no),SJ w9 l.heap.size q.D S Pr,λ_ _ _=>False,
  λpre vs=>pre.length<S.l.length/\∃d,DQ w9 q.D S vs d,λh=>∃f,sx (DQ w9 q.D S) h f/\f.Perm S.l,?_,λs pre A B m i=>m.fr a0 i,λ_ _ _ _ e _=>e,?_,?_,?_,trivial⟩
 ·intro w6 k6 s6
  exact⟨ai.keep k6,ai.keep k6,λc b=>b.elim,λc b=>b.elim,oM,none,0,0,λ_=>False,[],k6.get d1 id,aV.nil _,λc b=>b.elim,trivial,Qj _⟩
 ·rintro s pre A m f8 t1 t2 t3 t tn u t4 t5 t6 t7 t8 t9 ⟨f9,d,k,z,N,he,hr,P,a1⟩
  simp only[aE,List.cons.injEq,Value.agg.injEq,Array.mk.injEq,Value.int.injEq,XX,and_true,true_and]at he;obtain⟨rfl,rfl,rfl,⟨rfl,rfl,rfl⟩,rfl,rfl,rfl,rfl,rfl,rfl⟩:=he;refine PA.mk λg0 d2 g1 d3=>aD (bg d t tn u) d3 rfl λd4 d5 g2 d6=>?_;have k2:ai A d4:=d2.new d5 λc b=>.inr oM;refine⟨ai.keep k2,λb8 i=>?_⟩;have I:=(m.af k2).fr a0 i;have b9:=i.1.get d6 oM;have g6:=i.2;have c0:∀c,q.D c->c<w9.heap.size/\c≠l.heap.size:=λc b=>⟨b5.aF c (e.sub c (.inr (.inr (.inr b)))),λd=>b7 (d▸e.sub c (.inr (.inr (.inr b))))⟩
  have c1:=hr.keep I.keep λc b=>(c0 c b).2;have d7:ai w b8:=Z.new I.keep λc b=>.inr oM;refine⟨_,ae (I.keep.get d0 oM) rfl,aw (bg d t tn u) b9 ⟨a,r,X,rfl,hg,PC.ok (hp d t tn u _ b8 d7 c1 P a1) ?_⟩⟩;rintro _ d8 ⟨rfl,a2⟩;refine⟨_,rfl,al.mk (λi=>λc2 d9=>?_) (λhf=>?_)⟩
  ·have e0:ai d8 c2:=d9.keep
   have Q:=a2.then e0;have e1:=I.af Q;obtain⟨J,R,K,v,h5,T,ln,lc,G,f,n,j,g,o,h9⟩:=e1;have e2:=c1.af Q;have b6:=o.length;refine⟨no,id,_,_,_,ae n rfl,aw (bg d t tn u) (Q.get b9 id) (PC.ok (nh e2 λc b=>by have:=(c0 c b).1;omega) ?_)⟩;rintro _ g7 ⟨e3,cn,cc,G2,rfl,e4,U,a3⟩;have g8:=a3.size;refine⟨_,_,_,_,_,_,_,_,_,_,_,_,rfl,ai.keep a3,PA.mk λg9 a4 h0 e5=>⟨ai.keep a4,?_⟩⟩;have kk:=a3.then a4;refine fh (c:=fZ) (j.af kk) Eg e5 (D:=G2) (x:=d) ⟨e3,cn,cc,rfl,e4.af a4,P⟩ (λc b=>⟨by have:=U c b;omega,λd=>by have:=U c b;have:=j.aF _ (j.self _ d);omega⟩) ?_ ?_ λa' L h1 F' e6 a5 c3=>⟨_,_,_,rfl,?_⟩
   ·have:=List.length_filter_le Pr f;unfold aQ;omega
   ·have:=List.length_filter_le Pr f;unfold maxLen;omega
   have V:=j.self;have a6:¬aI T=some l.heap.size:=λd=>by have:=(g _ (V _ d)).1;omega
   have e7:=a5.get (kk.get n id) a6;refine PS.mk e7 sM λe8 c4 h2 e9=>?_;have H:aj (λc=>aI T=some c\/c=l.heap.size) c2 e8:=((ai.keep kk).then (a5.mono λc _ b=>.inl b)).then (c4.mono λc _ b=>.inr b);have h3:=a5.size;refine⟨(ai.keep Q).trans H (λ_ _ e=>e) λc _ b=>?_,?_⟩
   ·rcases b with b|rfl
    ·have:=(g _ (V _ b)).1;exact⟨oM,oM⟩
    ·exact⟨oM,oM⟩
   refine⟨J.new H ?_,R.trans H (λ_ _ e=>e) λc _ b y=>?_,K,λc b=>by have:=v c b;omega,oM,a',ln+1,L,F',f++[d],?_,?_,?_,o.snoc ⟨t,tn,u,rfl,hr,P,a1⟩,?_⟩
   ·rintro c (b|b)
    ·exact .inr (by have:=(g _ (V _ b)).1;omega)
    ·exact .inl b
   ·rcases b with b|b
    ·exact(g _ (V _ b)).2 y
    ·exact(K c y).2.2 b
   ·rw[e9];rfl
   ·have a7:(f++[d]).filter Pr=f.filter Pr++[d]:=by rw[List.filter_append];simp[i]
    rw[a7];refine e6.keep c4 λc b d=>?_;rcases c3 c b with b|b|b
    ·have:=(g c b).1;omega
    ·have:=U c b;omega
    ·omega
   ·intro c b
    rcases c3 c b with b|b|b
    ·exact g c b
    ·have:=U c b;exact⟨oM,λy=>by have:=v c y;omega⟩
    ·exact⟨oM,λy=>by have:=v c y;omega⟩
   ·simp;omega
  ·refine⟨ai.keep a2,?_⟩
   obtain⟨J,R,K,v,h5,T,ln,lc,G,f,n,j,g,o,h9⟩:=I.af a2;have b6:=o.length;refine⟨J,R,K,v,h5,T,ln,lc,G,f++[d],n,?_,g,o.snoc ⟨t,tn,u,rfl,hr,P,a1⟩,by simp;omega⟩;have a7:(f++[d]).filter Pr=f.filter Pr:=by rw[List.filter_append];simp[hf]
   rw[a7];exact j
 ·intro f0 Rx hR _ h4 hy w6 f1 f2
  refine Calls.mono (Th (R:=f0) a0 W b5 c9 oM b7 hR (λs pre vs A m f3 i hN=>(hy s pre vs A m f3 i hN).mono ?_) f1 f2) ?_
  ·rintro c A' (e|⟨-,x,e,-⟩)
   ·exact e
   ·exact e.elim
  ·rintro _ A' ⟨C,rfl,f4,s,h,a8,hT⟩
   exact⟨⟨C,rfl⟩,.inl ⟨f4,s,h,a8,hT⟩⟩
 ·rintro s h A m ⟨L',f5,f6⟩ hm
  obtain⟨J,R,K,v,h5,k,z,N,G,f,n,j,g,o,h9⟩:=m;obtain rfl:=sx.unique o f5;have a9:(f.filter Pr).Perm (S.l.filter Pr):=f6.filter _;refine⟨_,_,_,ae n rfl,PC.ok (KS j (by rw[a9.length_eq];exact Xx (List.length_filter_le ..) hl)) ?_⟩;rintro _ h6 ⟨rfl,l',M,b0,b1,b2⟩;have b3:=j.self;have a6:¬aI k=some l.heap.size:=λd=>by have:=(g _ (b3 _ d)).1;omega
  have f7:¬aI k=some w9.heap.size:=λd=>by have:=(g _ (b3 _ d)).1;omega
  refine⟨rfl,_,_,_,ae (b2.get n a6) rfl,b2.get hm f7,λi0 ⟨c5,i1⟩=>Ok.mk ?_⟩;have c6:=List.filter_sublist (p:=Pr) (l:=S.l);obtain rfl:l'=S.l.filter Pr:=NF b0 (W.Rz.sublist c6) (M.trans a9) (((M.trans a9).map aO).nodup_iff.2 (W.ids.sublist (c6.map _)));refine⟨k,z,N,G,rfl,b1.keep c5 λc b d=>by have:=(g c b).1;omega,?_,λc b=>by have:=(g c b).1;omega⟩;exact((Z.new J λc b=>.inr oM).new b2 λc b=>.inr (by have:=(g c (b3 c b)).1;omega)).new c5 λc b=>.inr oM
end
end Go.Proofs.YtfchlbaidamodaaGreatDoor
namespace Go.ax
variable{s:List Int}{a:Nat}{f:Nat->Prop}{d:Option Addr}{j:Type}{g:TypeId}{b:World}
def Row.uv{D:Nat->Prop}(c:Row aP 8 b D d a s):Ints b d a s:=by
 have o:=c.len;refine⟨o,c.d_,λj p=>?_,λi j e=>?_⟩
 ·obtain⟨i,e,rfl⟩:=List.getElem_of_mem p
  obtain⟨k,l,q,h,f,m,n⟩:=c.mh (i:=i) oM;rw[Qq e]at f;rw[XJ f];exact m
 ·have t:=(Qv.1 e).1
  obtain⟨k,l,u,h,r,v,w,x⟩:=c.el i j e;obtain⟨y,z,q,g,f,m,n⟩:=c.mh (i:=i) oM;rw[e]at f;rw[h]at g;cases g
  exact⟨k,l,h,r,by rw[n,XJ f]⟩
def Own.take{d:World}{e:TypeId}{k:Nat}{f:Option Addr}{b g m:Nat}{cs:List Value}(h:Own d e k f b g cs)(i:m<=b):Own d e k f m g (cs.take (m*k)):=by
 have j:=h.length;have l:m*k<=b*k:=Q0 _ i;refine⟨⟨by rw[Qy,j];omega,?_⟩⟩;rcases h.row.2 with⟨a,rfl⟩|⟨n,o,c,a,p,q,u,r,s,t⟩
 ·obtain rfl:m=0:=oM
  exact .inl ⟨a,rfl⟩
 ·simp only[XX]at a
  refine .inr ⟨n,o,c,by rw[a.1,a.2.2],p,q,oM,r,s,?_⟩;rw[<-t,List.take_take,X2 l]
def aV.take{e:kM j}{h a m:Nat}{i:List j}(c:aV e g f b d h a i)(k:m<=h):aV e g f b d m a (i.take m):=by
 obtain⟨cs,D,l,n,o⟩:=c.body;exact⟨⟨_,D,l.take k,n.take m,o⟩,c.self,c.aF⟩
end Go.ax
namespace Go.Proofs.YtfchlbaidamodaaGreatDoor
open Go.ax
variable{e:Int}{s:List Int}{a c:Nat}{d:Option Addr}
section
variable {w w' w1:World} {p:Nat} {F T:Nat->Prop} {S:aq} {q:Tf}
def sD(e:cV w p F S)(a:S.l.length<=20000000):Calls ZQ 41 #[ZX p] w (Ok (qD fZ 59 w S.l)):=by
 refine xS (PC.ok (DS e a (Pr:=λ_=>true) kR λi b c d D w1 j k l m=>?_) ?_)
 ·exact uI (PA.mk λn f o q=>Ok.mk ⟨rfl,f⟩)
 ·rintro _ r ⟨b,c,d,G,rfl,a,g,h⟩
  rw[List.filter_eq_self.2 sM]at a;exact⟨_,_,_,rfl,Ok.mk ⟨b,c,d,G,rfl,a,g,h⟩⟩
def zN(q:cV w p F S)(r:S.l.length<=20000000){D:Nat->Prop}(t:Row aP 8 w D d a s):
  Calls ZQ 55 #[ZX p,.slice d a c,QH e] w (Ok (qD fZ 59 w (S.missing s e))):=by
 refine qw (PA.mk λw1 i H u=>PC.ok (DS (q.af i) r (Pr:=λb=>decide (max 0 (fH s b.origin)<b.seq)) kR λb k g l I J v K L M=>?_) ?_)
 ·refine nK (PA.mk λm n N h=>λx y=>⟨no,id,?_⟩)
  have j:ai m x:=y.keep;have h:=j.get h id;have o:=v.then (n.then j);refine⟨_,ae h rfl,_,_,_,ae (o.get u id) rfl,_,ae h rfl,PC.ok (oD (t.uv.af (i.then o))) ?_⟩;rintro _ _ ⟨rfl,rfl⟩;refine⟨_,rfl,aj.refl _,Ok.mk ⟨?_,n.then j⟩⟩
  congr 1
  rw[decide_eq_decide];split<;>omega
 ·rintro _ m ⟨k,g,l,G,rfl,f,z,A⟩
  have O:=f.len dC;have P:=f.jx;have B:(if e>0 then e else 0)=max 0 e:=by split<;>omega
  refine⟨_,_,_,rfl,?_⟩;rw[B];refine⟨by split<;>omega,by split<;>omega,Ok.mk ⟨k,_,l,G,rfl,?_,i.then z,λC E=>by have:=A C E;omega⟩⟩;have:=f.take (m:=Int.toNat (if max 0 e<(g:Int)then max 0 e else(g:Int))) (by split<;>omega);unfold aq.missing;have b:(List.filter (λb=>decide (max 0 (fH s b.origin)<b.seq)) S.l).take (Int.toNat (if max 0 e<(g:Int)then max 0 e else(g:Int)))=(List.filter (λb=>decide (max 0 (fH s b.origin)<b.seq)) S.l).take (max 0 e).toNat:=by
   split
   ·rfl
   ·rw[Qz oM,Qz oM]
  rw[<-b];exact this
def zQ{b:Type}(p:b->Bool):∀a:List b,a.find? p=(a.filter p).head?
 |[]=>rfl
 |x::a=>by
  rw[List.find?_cons,List.filter_cons]
  cases p x
  ·exact zQ p a
  ·rfl
def QM(H:cV w p F S)(s:S.l.length<=20000000){key:Int}:
  Calls ZQ 83 #[ZX p,QH key] w (Ok λI w'=>∃t u J G,I= .tuple #[kK ((S.keyed key).getD sY) t u J,.bool (S.keyed key).isSome]/\Row aP 8 w' G t u ((S.keyed key).getD sY).aK/\(∀a,G a->w.heap.size<=a/\a<w'.heap.size)/\ai w w'):=by
 refine tF (PA.mk λw1 n s1 v=>PA.mk λw2 k s2 K=>PC.ok (DS ((H.af n).af k) s (Pr:=λb=>key !=0&&b.key==key) kR λb L M N D' O P hr x hm=>?_) ?_)
 ·refine qm (PA.mk λy e z g=>?_)
  have A:=(k.then P).then e;refine⟨_,ae (A.get v id) rfl,al.dw (λQ=>⟨_,ae g rfl,_,ae (A.get v id) rfl,Ok.mk ⟨?_,e⟩⟩) (λx=>Ok.mk ⟨?_,e⟩)⟩
  ·rw[show(key !=0)=true by simpa using Q];rfl
  ·rw[x];rfl
 ·rintro _ O ⟨L,M,N,G,rfl,c,o,B⟩
  have l:=c.len dC;have C:=o.get K id;have E:S.keyed key=(S.l.filter λb=>key !=0&&b.key==key).head? :=zQ _ _;refine⟨_,_,_,rfl,al.dX (λR=>?_) (λR=>?_)⟩
  ·have:(S.l.filter λb=>key !=0&&b.key==key)=[]:=QW oM
   rw[E,this];refine aD (bg sY none 0 0) C rfl λy e z g=>aw (bg sY none 0 0) g (Ok.mk ⟨none,0,0,λ_=>False,rfl,Row.nil _ _,λa d=>d.elim,((n.then k).then o).new e λa d=>.inr oM⟩)
  ·cases m:S.l.filter λb=>key !=0&&b.key==key with
   |nil=>rw[m]at l;simp at l;omega
   |cons f T=>
    rw[m]at c l;have a0:(f::T).length<=20000000:=by rw[<-m];exact Xx (List.length_filter_le ..) s
    have U:=c.row (bytes:=96) dC (by unfold aQ;omega);obtain⟨a,q,es,V,d,a1,W,h,i,j,rfl,X,a3⟩:=U.el 0 f rfl;rw[E,m];refine⟨a,q,V,oM,by simp at l;omega,?_⟩;have Y:q+Int.toNat 0*10=q:=rfl;rw[Y];refine br (es:=aE f h i j) (k:=10) (bg f h i j) rfl (λZ r=>?_) (aD (bg f h i j) C rfl λy e z g=>aw (bg f h i j) g (Ok.mk ⟨h,i,j,G,rfl,?_,?_,?_⟩))
    ·have:=W Z r
     simpa using this
    ·exact X.keep e λa d b=>by have:=B a d;omega
    ·intro a d;have:=B a d;have:=c.aF a d;omega
    ·exact((n.then k).then o).new e λa d=>.inr oM
end
end Go.Proofs.YtfchlbaidamodaaGreatDoor
namespace Go.Proofs.YtfchlbaidamodaaGreatDoor
open Go.ax
variable{e m:Int}{s:List Int}{a c:Nat}{d:Option Addr}{j:Type}
def VD(d:a+c<4611686018427387904):IntKind.wrap .i64 (iA .u64 (IntKind.wrap .u64 (IntKind.wrap .i64 ((a:Int)+(c:Int)))) 1)=(((a+c)/2:Nat):Int):=by
 rw[wrap_i64 (x:=(a:Int)+c) (by unfold aN;omega)];have b:IntKind.wrap .u64 ((a:Int)+(c:Int))=((a+c:Nat):Int):=by
  unfold IntKind.wrap;simp[IntKind.signed,IntKind.bits];omega
 rw[b,show(1:Int)=((1:Nat):Int)from rfl,O_ dC,wrap_i64 (by unfold aN;omega)]
def posOf{a:Type}(b:a->Bool)(c:List a):Nat:=(c.takeWhile b).length
def Bp(a:j->Bool)(b:List j):posOf a b<=b.length:=(List.takeWhile_sublist a).length_le
def Bq{e:Type}{p:e->Bool}:∀{l:List e} {i:Nat},i<=l.length->(∀a x,a<i->l[a]? =some x->p x=true)->(∀x,l[i]? =some x->p x=false)->posOf p l=i
 |[],i,b,_,_=>by simp at b;subst b;rfl
 |x::l,0,_,_,g=>by
  have:=g x rfl;simp[posOf,this]
 |x::l,i+1,b,f,h=>by
  have j:=f 0 x oM rfl;have:=Bq (p:=p) (l:=l) (i:=i) (by simpa using b) (λa c k d=>f (a+1) c oM (by simpa using d)) (λc d=>h c (by simpa using d));unfold posOf at this⊢;rw[List.takeWhile_cons,j];simp[this]
section
variable {w w':World} {D:Nat->Prop}
def VE{w:World}:Calls ZQ 312 #[QH e] w (Ok λa w'=>a= .bool false/\w=w'):=um (Ok.mk ⟨sM,rfl⟩)
def Rv{w:World}:Calls ZQ 311 #[QH e,QH m] w (Ok λa w'=>a= .bool (decide (e<m))/\w=w'):=by
 refine Br (PC.ok isNaN ?_);rintro _ _ ⟨rfl,rfl⟩;exact⟨_,rfl,al.ff rfl (Ok.mk ⟨rfl,rfl⟩)⟩
abbrev xG(a:List Int):Prop:=a.Pairwise (·<·)
def uo(u:Row aP 8 w D d a s)(H:xG s):
  Calls ZQ 279 #[.slice d a c,QH e] w (Ok λI w'=>I= .tuple #[QH (posOf (λb=>decide (b<e)) s:Nat),.bool (decide (e∈s))]/\w=w'):=by
 have O:=u.len;have J:=u.d_;unfold aQ at J;have A:∀{i l:Nat} {b n:Int},s[i]? =some b->s[l]? =some n->i<=l->b<=n:=λ{i l b n} j o P=>by
  obtain⟨p,rfl⟩:=Qv.1 j;obtain⟨q,rfl⟩:=Qv.1 o;rcases Nat.lt_or_ge i l with h|h
  ·exact Int.le_of_lt (List.pairwise_iff_getElem.1 H i l p q h)
  ·obtain rfl:i=l:=oM
   exact Int.le_refl _
 refine jy ⟨λF i l w'=>∃f k:Nat,i=f/\l=k/\F=k-f/\f<=k/\k<=a/\(∀g b,g<f->s[g]? =some b->b<e)/\(∀g b,k<=g->s[g]? =some b->e<=b)/\w=w',
  ⟨_,0,a,rfl,rfl,rfl,oM,oM,λg b m=>oM,λg b m j=>by have:=(Qv.1 j).1;omega,rfl⟩,?_⟩
 rintro F _ _ _ _ ⟨f,k,rfl,rfl,rfl,Q,K,p,q,rfl⟩;refine al.dec (λR=>?_) (λS=>?_)
 ·rw[VD oM]
  obtain⟨v,x,b,y,j,-,z⟩:=u.mh (i:=(f+k)/2) oM;refine⟨v,x,y,oM,oM,b,by rw[Qx];exact z,PC.ok Rv ?_⟩;rintro _ _ ⟨rfl,rfl⟩;refine⟨_,rfl,al.dec (λL=>⟨_,?_,(f+k)/2+1,k,an oM,rfl,rfl,oM,K,λg n m o=>?_,q,rfl⟩) (λL=>⟨_,?_,f,(f+k)/2,rfl,rfl,rfl,oM,oM,p,λg n m o=>?_,rfl⟩)⟩
  ·omega
  ·have:=A o j oM;omega
  ·omega
  ·have:=A j o m;omega
 ·obtain rfl:f=k:=oM
  have M:posOf (λb=>decide (b<e)) s=f:=Bq oM (λg b m j=>by simpa using p g b m j) (λb j=>by have:=q f b (Q4 _) j;simp;omega);rw[M];have B:e∈s↔s[f]? =some e:=by
   constructor
   ·intro r
    obtain⟨g,m,rfl⟩:=List.getElem_of_mem r;have t:s[g]? =some s[g]:=Qq m;rcases Nat.lt_or_ge g f with h|h
    ·have:=p g _ h t;omega
    ·have C:f<s.length:=oM
     have T:=q f _ (Q4 _) (Qq C);have U:=A (Qq C) t h;rw[Qq C];congr 1;omega
   ·exact QZ
  refine al.dec (λN=>?_) (λN=>?_)
  ·obtain⟨v,x,b,y,j,-,z⟩:=u.mh (i:=f) oM
   refine⟨v,x,y,oM,oM,b,z,al.dX (λE=>Ok.mk ⟨?_,rfl⟩) (λE=>⟨v,x,y,oM,oM,b,z,PC.ok VE ?_⟩)⟩
   ·rw[decide_eq_true (B.2 (E▸j))]
   ·rintro _ _ ⟨rfl,rfl⟩
    refine⟨_,rfl,al.ff rfl (Ok.mk ⟨?_,rfl⟩)⟩;rw[Xv];intro r;have:=B.1 r;rw[j]at this;exact E (XJ this)
  ·refine Ok.mk ⟨?_,rfl⟩
   rw[Xv];intro r;have:=(Qv.1 (B.1 r)).1;omega
end
def IT{b:Int}:∀{a:List Int},xG a->b∉a->qN b a=a.take (posOf (λy=>decide (y<b)) a)++b::a.drop (posOf (λy=>decide (y<b)) a)
 |[],_,_=>rfl
 |y::a,e,c=>by
  obtain⟨g,f⟩:=List.pairwise_cons.1 e;simp only[Q2,not_or]at c;unfold qN posOf
  by_cases d:b<y
  ·rw[if_pos d,List.takeWhile_cons,Xv oM];rfl
  ·rw[if_neg d,if_neg c.1,List.takeWhile_cons,decide_eq_true (show y<b by omega),IT f c.2];rfl
def vF{c:Int}:∀{a:List Int},c∈a->xG a->qN c a=a
 |y::a,b,d=>by
  obtain⟨e,f⟩:=List.pairwise_cons.1 d;unfold qN;rcases Q2.1 b with rfl|b
  ·rw[if_neg oM,if_pos rfl]
  ·have:=e c b
   rw[if_neg oM,if_neg oM,vF b f]
def IU{c a:Int}:∀{b:List Int},a∈qN c b↔a=c\/a∈b
 |[]=>by simp[qN]
 |y::b=>by
  unfold qN;split
  ·simp
  ·split
   ·rename_i h;subst h;simp
   ·simp only[Q2,IU]
    constructor
    ·rintro(h|h|h)<;>simp[h]
    ·rintro(h|h|h)<;>simp[h]
def Fu{f:Int}:∀{b:List Int},xG b->xG (qN f b)
 |[],_=>List.pairwise_singleton ..
 |y::b,c=>by
  obtain⟨e,g⟩:=List.pairwise_cons.1 c;unfold qN;split
  ·rename_i h
   exact List.pairwise_cons.2 ⟨λd a=>by
    rcases Q2.1 a with rfl|a
    ·exact h
    ·have:=e d a;omega,c⟩
  ·split
   ·exact c
   ·refine List.pairwise_cons.2 ⟨λd a=>?_,Fu g⟩
    rcases IU.1 a with rfl|a
    ·omega
    ·exact e d a
def NR{b:Int}:∀{a:List Int},xG a->b∈a->(a.filter λy=>y !=b)=a.eraseIdx (posOf (λy=>decide (y<b)) a)/\posOf (λy=>decide (y<b)) a<a.length
 |y::a,g,d=>by
  obtain⟨f,h⟩:=List.pairwise_cons.1 g;rcases Q2.1 d with rfl|d
  ·have e:posOf (λy=>decide (y<b)) (b::a)=0:=by simp[posOf]
   rw[e];refine⟨?_,sM⟩;rw[List.filter_cons_of_neg sM,List.eraseIdx_zero,List.tail_cons];refine List.filter_eq_self.2 λc i=>?_;have:=f c i;simp;omega
  ·have j:=f b d
   obtain⟨k,l⟩:=NR h d;have e:posOf (λc=>decide (c<b)) (y::a)=posOf (λc=>decide (c<b)) a+1:=by simp[posOf,j]
   rw[e,List.filter_cons_of_pos (by simp;omega),List.eraseIdx_cons_succ,k];exact⟨rfl,by simp;exact l⟩
def IV(a:e∉s):(s.filter λb=>b !=e)=s:=List.filter_eq_self.2 λd c=>by
 simp only[bne_iff_ne,ne_eq];rintro rfl;exact a c
end Go.Proofs.YtfchlbaidamodaaGreatDoor

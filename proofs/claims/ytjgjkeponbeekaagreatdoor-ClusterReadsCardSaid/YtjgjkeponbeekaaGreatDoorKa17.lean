import Derived.Test.YtjgjkeponbeekaaGreatDoorKa16
set_option linter.all false
set_option maxHeartbeats 4000000
set_option maxRecDepth 20000
namespace Go.ar
open Go
def oy(a:Int×Int):Value:=.agg #[XH a.1,XH a.2]
def BT(a:Int×Int×Int):Value:=.agg #[XH a.1,XH a.2.1,XH a.2.2]
structure IZ (P:Program) (t ti:TypeId):Prop where
 hu:P.underlying t=some (.struct (P.fieldsOf t))
 ui:P.underlying ti=some (.int .i64)
 hf:∃n1 n2,(P.fieldsOf t).toList.map (λf=>(f.name,f.type,f.offset))=[(n1,ti,0),(n2,ti,1)]/\n1≠ "_"/\n2≠ "_"
 hp:P.stoodInHeld t=false
 hm:P.eqGuardType P.depth t=false
 ag:tC P ti=false
variable{A U e m:Int}{R W:Operand}{p u:Value->World->Prop}{b:World}
section
variable {P:Program} {t ti:TypeId}
def IZ.equalIn(b:IZ P t ti)(f:Nat)(c d:Int×Int)(e:World):(Op.equalIn (f+2) t (oy c) (oy d)).run P e= .ok (c==d) e:=by
 obtain⟨v,w,a,g,h⟩:=b.hf;unfold oy;rw[run_equalIn_struct e (f+1) _ _ _ b.hu b.hp];generalize(P.fieldsOf t).toList=i at a
 match i,a with
 |[x,y],a=>
  simp only[QY,List.map_nil,List.cons.injEq,Prod.mk.injEq,and_true]at a;obtain⟨⟨j,k,l⟩,m,n,o⟩:=a;have p:(isAgg ti).run P e= .ok false e:=cI _ _ _ b.ag ⟨_,b.ui⟩ e;have q:=run_equalIn_int (P:=P) e f ti .i64 .i64 c.1 d.1 b.ui;have r:=run_equalIn_int (P:=P) e f ti .i64 .i64 c.2 d.2 b.ui;unfold Op.eqFields Op.eqFields Op.eqFields;rw[j,k,l,m,n,o];have s:(c==d)=(c.1==d.1&&c.2==d.2):=rfl;rw[s]
  cases b:c.1==d.1<;>simp[part,p,q,r,b,g,h]
  by_cases u:c.2=d.2<;>simp[u]
 |[],a=>simp at a
 |[_],a=>simp at a
 |_::_::_::_,a=>simp at a
def IZ.eql(a:IZ P t ti)(c:p (.bool (e==A&&m==U)) b):
  aG P (do eqGuard .eql t R W (.agg #[XH e,XH m]) (.agg #[XH A,XH U]);binOp .eql t (.agg #[XH e,XH m]) (.agg #[XH A,XH U]):Sem Value) b p u:=by
 refine aG.mk (v:=.bool (e==A&&m==U)) ?_ c;rw[Sem.run_bind,run_eqGuard_agg b .eql _ R W _ _ a.hm,Result.andThen_ok,run_eql_struct];have:=a.equalIn 9998 (e,m) (A,U) b;unfold oy at this;rw[this];rfl
def IZ.neq(a:IZ P t ti)(c:p (.bool (!(e==A&&m==U))) b):
  aG P (do eqGuard .neq t R W (.agg #[XH e,XH m]) (.agg #[XH A,XH U]);binOp .neq t (.agg #[XH e,XH m]) (.agg #[XH A,XH U]):Sem Value) b p u:=by
 refine aG.mk (v:=.bool (!(e==A&&m==U))) ?_ c;rw[Sem.run_bind,run_eqGuard_agg b .neq _ R W _ _ a.hm,Result.andThen_ok,run_neq_struct];have:=a.equalIn 9998 (e,m) (A,U) b;unfold oy at this;rw[this];rfl
def IZ.check(c:IZ P t ti)(e:Nat)(h:Int×Int)(b:World)(f:Bool):(Instr.checkKey f (e+2) t (oy h)).run P b= .ok () b:=by
 obtain⟨u,v,a,i,j⟩:=c.hf;have k:(isAgg ti).run P b= .ok false b:=cI _ _ _ c.ag ⟨_,c.ui⟩ b;have l:∀g:Int,(Instr.checkKey f (e+1) ti (XH g)).run P b= .ok () b:=λg=>by simp[Instr.checkKey,run_underlying c.ui]
 unfold oy;have m:=c.hu;unfold Instr.checkKey;rw[Sem.run_bind,run_underlying m,Result.andThen_ok];generalize w:P.fieldsOf t=d at a;obtain⟨d⟩:=d
 match d,a with
 |[x,y],a=>
  simp only[QY,List.map_nil,List.cons.injEq,Prod.mk.injEq,and_true]at a;obtain⟨⟨n,o,p⟩,q,r,s⟩:=a;simp[n,o,p,q,r,s,part,k,l,i,j]
 |[],a=>simp at a
 |[_],a=>simp at a
 |_::_::_::_,a=>simp at a
def IZ.key(a:IZ P t ti):im P t oy:=
 im.struct a.hu (λb c=>rfl) (λb c d=>a.equalIn 9998 b c d) (λe d f=>a.check 9998 e d f) (λg b=>by unfold oy;simp[Instr.sameBits]) λ{b c} a=>by
  unfold oy at a;simp only[Value.agg.injEq,Array.mk.injEq,List.cons.injEq,Value.int.injEq,and_true,true_and]at a;exact Prod.ext a.1 a.2
structure vA (P:Program) (t t2 ti:TypeId):Prop where
 two:IZ P t2 ti
 hu:P.underlying t=some (.struct (P.fieldsOf t))
 hf:∃n1 n2,(P.fieldsOf t).toList.map (λf=>(f.name,f.type,f.offset))=[(n1,t2,0),(n2,ti,2)]/\n1≠ "_"/\n2≠ "_"
 hp:P.stoodInHeld t=false
 ag:tC P t2=true
 sz:(P.info? t2).map (·.size)=some 2
variable {t2:TypeId}
def vA.QR(c:vA P t t2 ti)(b:Int×Int×Int)(a:World):(part t2 #[XH b.1,XH b.2.1,XH b.2.2] 0).run P a= .ok (oy (b.1,b.2.1)) a:=by
 obtain⟨h,d,e⟩:=Option.map_eq_some_iff.1 c.sz;have f:(isAgg t2).run P a= .ok true a:=cI _ _ _ c.ag ⟨_,c.two.hu⟩ a;have g:(sizeOf t2).run P a= .ok 2 a:=by simp[sizeOf,typeInfo,d,e]
 unfold part;simp[f,g,oy]
def vA.equalIn(e:vA P t t2 ti)(g:Nat)(a b:Int×Int×Int)(c:World):(Op.equalIn (g+3) t (BT a) (BT b)).run P c= .ok (a==b) c:=by
 obtain⟨A,B,d,i,j⟩:=e.hf;have k:=e.QR a c;have l:=e.QR b c;have h:=e.two.equalIn g (a.1,a.2.1) (b.1,b.2.1) c;have n:=run_equalIn_int (P:=P) c (g+1) ti .i64 .i64 a.2.2 b.2.2 e.two.ui;have o:(isAgg ti).run P c= .ok false c:=cI _ _ _ e.two.ag ⟨_,e.two.ui⟩ c;unfold BT;rw[run_equalIn_struct c (g+2) _ _ _ e.hu e.hp];generalize(P.fieldsOf t).toList=p at d
 match p,d with
 |[C,E],d=>
  simp only[QY,List.map_nil,List.cons.injEq,Prod.mk.injEq,and_true]at d;obtain⟨⟨q,r,s⟩,u,v,w⟩:=d;unfold Op.eqFields Op.eqFields Op.eqFields;rw[q,r,s,u,v,w];have x:(a==b)=(((a.1,a.2.1):Int×Int)==(b.1,b.2.1)&&a.2.2==b.2.2):=by
   show(a.1==b.1&&(a.2.1==b.2.1&&a.2.2==b.2.2))=((a.1==b.1&&a.2.1==b.2.1)&&a.2.2==b.2.2);rw[Bool.and_assoc]
  rw[x];have y:∀f:Int×Int×Int,(part ti #[XH f.1,XH f.2.1,XH f.2.2] 2).run P c= .ok (XH f.2.2) c:=λf=>by simp[part,o]
  cases m:((a.1,a.2.1):Int×Int)==(b.1,b.2.1)with
  |false=>
   rw[m]at h;simp[k,l,h,i,j]
  |true=>
   rw[m]at h;simp[k,l,h,n,y,i,j]
   by_cases z:a.2.2=b.2.2<;>simp[z]
 |[],d=>simp at d
 |[_],d=>simp at d
 |_::_::_::_,d=>simp at d
def vA.check(d:vA P t t2 ti)(e:Nat)(c:Int×Int×Int)(a:World)(f:Bool):(Instr.checkKey f (e+3) t (BT c)).run P a= .ok () a:=by
 obtain⟨x,y,b,i,j⟩:=d.hf;have k:=d.QR c a;have l:(isAgg ti).run P a= .ok false a:=cI _ _ _ d.two.ag ⟨_,d.two.ui⟩ a;have m:∀h:Int,(Instr.checkKey f (e+2) ti (XH h)).run P a= .ok () a:=λh=>by simp[Instr.checkKey,run_underlying d.two.ui]
 have n:=d.two.check e (c.1,c.2.1) a f;have o:(part ti #[XH c.1,XH c.2.1,XH c.2.2] 2).run P a= .ok (XH c.2.2) a:=by simp[part,l]
 unfold BT;have p:=d.hu;rw[show e+3=(e+2)+1 from rfl];unfold Instr.checkKey;rw[Sem.run_bind,run_underlying p,Result.andThen_ok];generalize z:P.fieldsOf t=g at b;obtain⟨g⟩:=g
 match g,b with
 |[A,B],b=>
  simp only[QY,List.map_nil,List.cons.injEq,Prod.mk.injEq,and_true]at b;obtain⟨⟨q,r,s⟩,u,v,w⟩:=b;simp[q,r,s,u,v,w,k,o,n,m,i,j]
 |[],b=>simp at b
 |[_],b=>simp at b
 |_::_::_::_,b=>simp at b
def vA.key(a:vA P t t2 ti):im P t BT:=
 im.struct a.hu (λb c=>rfl) (λb c d=>a.equalIn 9997 b c d) (λe d f=>a.check 9997 e d f) (λg b=>by unfold BT;simp[Instr.sameBits]) λ{b c} a=>by
  unfold BT at a;simp only[Value.agg.injEq,Array.mk.injEq,List.cons.injEq,Value.int.injEq,and_true,true_and]at a;exact Prod.ext a.1 (Prod.ext a.2.1 a.2.2)
end
end Go.ar
namespace Go.Proofs.YtjgjkeponbeekaaGreatDoor
open Go.ar
abbrev Ec:Int×Int->Value:=oy
def Lj:IZ XP 46 3:=⟨kR,kR,⟨"Origin", "Seq",kR,dC,dC⟩,kR,kR,kR⟩
def VK:im XP 46 Ec:=Lj.key
abbrev rl:aj:=⟨0,0,0,[],0,0,0,0,0,0⟩
abbrev jA(a:aj)(b:Option Addr)(c d:Nat):Value:=.agg (aC a b c d).toArray
def QE:lx XP 182 46 63 (jA rl none 0 0):=⟨kR,kR⟩
def jR{e:World}{D:Nat->Prop}:∀{a:List Int} {cs:List Value},bu aJ e D a cs↔cs=ints a/\∀x∈a,aH x
 |[],cs=>by simp[bu,ints]
 |x::a,cs=>by
  constructor
  ·rintro⟨i,j,rfl,⟨rfl,f⟩,g⟩
   obtain⟨rfl,h⟩:=jR.1 g;exact⟨rfl,λc b=>by rcases Q2.1 b with rfl|b;exact f;exact h c b⟩
  ·rintro⟨rfl,d⟩
   exact⟨[XH x],ints a,rfl,⟨rfl,d x (QV ..)⟩,jR.2 ⟨rfl,λc b=>d c (QJ _ b)⟩⟩
variable{e:Int}{t:List Int}{C a c i k:Nat}{f:Nat->Prop}{d:Option Addr}{h:Program}{g:TypeId}{v:Value}{b l:World}{y:World->Prop}{o:aj}
def QF(j:aO aJ g f b d a c t)(p:i<t.length)(q:aH e)(r:d=some ⟨k,C,none⟩)(l:∀h,aO aJ g f h d a c (t.set i e)->ak (λk=>aF d=some k) b h->h.heap.size=b.heap.size->y h):PS b ⟨k,C+i,none⟩ (XH e) y:=by
 obtain⟨cs,D,s,u,v⟩:=j.body;obtain⟨rfl,m⟩:=jR.1 u;refine s.set (m:=i) (by rw[iQ];exact p) r λh w x o=>l h ⟨⟨_,D,w,jR.2 ⟨?_,?_⟩,v⟩,j.self,λk m=>by rw[o];exact j.aB k m⟩ x o
 ·unfold ints;rw[List.map_set]
 ·intro z n
  rcases List.mem_or_eq_of_mem_set n with n|rfl
  ·exact m z n
  ·exact q
def Sz(d:World)(D:Nat->Prop)(e:Value)(a:aj):Prop:=∃b c f,e=jA a b c f/\Row aJ 8 d D b c a.aP/\a.Ok
def Sz.af{S D:Nat->Prop}(c:Sz b D v o)(d:ak S b l)(e:∀a,D a->¬S a):Sz l D v o:=by
 obtain⟨f,g,h,i,j,k⟩:=c;exact⟨f,g,h,i,j.af d e,k⟩
def Sz.mono{D a:Nat->Prop}(d:Sz b D v o)(e:∀c,D c->a c):Sz b a v o:=by
 obtain⟨f,g,h,i,j,k⟩:=d;exact⟨f,g,h,i,j.mono e,k⟩
def BD:rl.Ok:=by constructor<;>simp[aH]
def lZ{D:Nat->Prop}(j:Row aJ 8 b D d a o.aP)(v:∀e,D e->e<b.heap.size):
  Calls XP 115 #[jA o d a c] b (Ok λw k=>∃d a c G,w=jA o d a c/\Row aJ 8 k G d a o.aP/\(∀e,G e->b.heap.size<=e/\e<k.heap.size)/\ai b k):=by
 have x:=j.dN;have y:=j.len;refine yr (PA.mk λB p C g=>PA.mk λE h F l=>⟨_,_,_,ae (h.get g id) rfl,PC.ok (bC (j.ah (p.then h)) λe f=>by have:=v e f;omega) ?_⟩);rintro _ H ⟨q,r,s,G,rfl,t,i,m⟩;have g:=i.get (h.get g id) id;have l:=i.get l id;refine⟨_,_,_,rfl,PS.mk g (by simp[aC]) λI n J z=>?_⟩;refine au (cs:=aC o q r s) (aV _ _ _ _) z (az (aV _ _ _ _) (n.get l oM) rfl λK u L A=>au (aV _ _ _ _) A (Ok.mk ⟨q,r,s,G,rfl,?_,?_,?_⟩))
 ·refine(((t.af n λe f=>?_).af u λe f=>?_).row (bytes:=8) dC (by rw[<-y];exact x))
  ·have:=m e f;omega
  ·have:=m e f;omega
 ·intro e f
  have:=m e f;have:=t.aB e f;omega
 ·have M:=i.size
  exact((ak.new ((p.then h).then i) n λe f=>.inr oM).new u λe f=>.inr oM)
structure QG where
 a:Option Addr
 n:Nat
 c:Nat
 r:Nat
 V:Nat->Prop
 D:Nat->Prop
 l:List ((Int×Int)×Value)
 L:List ((Int×Int)×aj)
structure qL (w:World) (p:Nat) (F:Nat->Prop) (S:aw) (q:QG):Prop where
 at':w.heap[p]? =some (.cells #[.slice q.a q.n q.c,.map (some q.r),XH S.top] 184 (0,0))
 vec:aO aJ 3 q.V w q.a q.n q.c S.vec
 map:bD w q.r Ec q.l
 rel:eT (Sz w q.D) q.l q.L
 key:∀x∈q.L,x.1=aW x.2
 Vu:(q.L.map (·.2)).Perm S.l
 aB:∀b,F b->b<w.heap.size
 sub:∀b,b=p\/b=q.r\/q.V b\/q.D b->F b
 Vv:p≠q.r
 Uz:¬q.V p/\¬q.V q.r
 Vw:¬q.D p/\¬q.D q.r
 WO:∀b,q.V b->¬q.D b
def cf(b:World)(c:Nat)(d:Nat->Prop)(a:aw):Prop:=a.OK/\∃e,qL b c d a e
section
variable {w w' w1:World} {p:Nat} {F T:Nat->Prop} {S:aw} {q:QG}
def qL.af(a:qL w p F S q)(c:ak T w w')(e:∀b,F b->¬T b):qL w' p F S q:=
 ⟨c.get a.at' (e p (a.sub p (.inl rfl))),a.vec.af c λb d=>e b (a.sub b (.inr (.inr (.inl d)))),a.map.af c (e _ (a.sub _ (.inr (.inl rfl)))),
  a.rel.mono λg h f=>f.af c λb d=>e b (a.sub b (.inr (.inr (.inr d)))),a.key,a.Vu,λb d=>Qk (a.aB b d) c.size,a.sub,a.Vv,a.Uz,a.Vw,a.WO⟩
def qL.ah(a:qL w p F S q)(b:ai w w'):qL w' p F S q:=a.af b λ_ _ a=>a
def cf.af(a:cf w p F S)(c:ak T w w')(d:∀b,F b->¬T b):cf w' p F S:=⟨a.1,a.2.imp λq e=>e.af c d⟩
def cf.ah(a:cf w p F S)(b:ai w w'):cf w' p F S:=a.af b λ_ _ a=>a
def cf.aB(b:cf w p F S):∀a,F a->a<w.heap.size:=b.2.elim λq c=>c.aB
def qL.tidy(a:qL w p F S q):Tidy q.L:=by
 have:=a.map.tidy;unfold Tidy at*;rw[<-a.rel.keys];exact this
def qL.len(a:qL w p F S q):q.n=S.n:=by rw[a.vec.len dC,S.bL]
def qL.Vx(a:qL w p F S q)(b:S.OK):Row aJ 8 w q.V q.a q.n S.vec:=a.vec.row dC (by rw[S.bL];have:=b.n;unfold aK;omega)
def qL.look(b:qL w p F S q)(e:S.OK)(a:Int×Int):(aE q.l a=none/\S.get a=none)\/∃c d,aE q.l a=some c/\S.get a=some d/\Sz w q.D c d:=by
 rw[<-IG e b.key b.Vu b.tidy a];exact b.rel.aE a
def nj(a:cf w p F S):Calls XP 58 #[ZQ p] w (Ok (py aJ 3 w S.vec)):=by
 obtain⟨b,q,a⟩:=a;refine vW ⟨p,0,rfl,_,_,_,ae a.at' rfl,PC.ok (bC (a.Vx b) λc d=>a.vec.aB c d) ?_⟩;rintro _ k ⟨e,f,g,G,rfl,h,i,j⟩;exact⟨_,_,_,rfl,Ok.mk ⟨e,f,g,G,rfl,h,i,j⟩⟩
def Gn(a:cf w p F S):Calls XP 133 #[ZQ p] w (Ok λb w'=>b= XH S.top/\w=w'):=by
 obtain⟨c,q,a⟩:=a;exact vZ ⟨p,0,rfl,_,ae a.at' rfl,Ok.mk ⟨rfl,rfl⟩⟩
def QH(s:cf w p F S){e:aj}{D:Nat->Prop}(t:Row aJ 8 w D d a e.aP)(he:e.Ok)(hn:e.aP.length=S.n){o:Nat}(ho:o<S.n):
  Calls XP 114 #[ZQ p,jA e d a c,XH (o:Int)] w (Ok λm w'=>m= .bool (S.ly e o)/\ai w w'):=by
 obtain⟨u,q,s⟩:=s;have b1:=t.len;have hN:=u.n;refine uc (PA.mk λw1 l s1 M=>?_);have Z:=t.ah l;obtain⟨v,x,j,ha,hx,-,hc⟩:=Z.l_ (i:=o) oM;have N:e.aP.getD o 0=j:=by rw[QQ,hx];rfl
 refine⟨_,_,_,ae M rfl,v,x,ha,oM,oM,j,hc,al.dA (λy=>Ok.mk ⟨?_,l⟩) (λy=>?_)⟩
 ·unfold aw.ly;simp only[N,y];rfl
 have z:=s.ah l;have g:∀{A:Bool} {w':World},ai w w'->(match S.get (o,j)with
  |none=>false
  |some f=>decide (f.ay<e.ay)&&(List.range f.aP.length).all λi=>decide (f.aP.getD i 0<=e.aP.getD i 0))=A->Ok (λm w'=>m= .bool (S.ly e o)/\ai w w') (.returned (.bool A)) w':=λ{A w'} hg hy=>by
  refine Ok.mk ⟨?_,hg⟩;unfold aw.ly;simp only[N];rw[<-hy,show(j==0)=false by simpa using y]
  rfl
 refine⟨p,0,rfl,_,ae z.at' rfl,iH (enc:=Ec) (k:=((o:Int),j)) QE VK z.map ?_⟩;rcases z.look u (o,j)with⟨B,k⟩|⟨m,f,B,k,O,n,P,rfl,a0,b2⟩
 ·rw[B]
  refine bN (ri rl none 0 0) ⟨_,rfl,PA.mk λw2 C s2 E=>az (aV rl none 0 0) E rfl λH I s3 J=>al.tt rfl (g (l.then ((C.then (ak.refl _)).new I λv hb=>.inr oM)) ?_)⟩;rw[k]
 ·rw[B]
  refine bN (ri f O n P) ⟨_,rfl,PA.mk λw2 C s2 E=>az (aV f O n P) E rfl λH I s3 J=>al.ff rfl ?_⟩;have K:ai w1 H:=(C.then (ak.refl _)).new I λv hb=>.inr oM;have r:=l.then K;have Q:=K.get M id;have a1:=aw.get_some k;have b3:f.aP.length=S.n:=by have:=qQ (u.VW f a1.1);omega
  refine⟨_,ae J rfl,_,ae Q rfl,al.dec (λhl=>g r ?_) (λhl=>?_)⟩
  ·rw[k]
   simp only[Bool.and_eq_false_iff,decide_eq_false_iff_not];left;omega
  have a2:=t.ah r;have R:=a0.ah K;have b6:=R.len;refine⟨_,_,_,ae J rfl,λT i w'=>∃b:Nat,i=b/\b<=n/\T=n-b/\(∀h,h<b->f.aP.getD h 0<=e.aP.getD h 0)/\H=w',⟨_,0,rfl,Qj _,rfl,λh L=>oM,rfl⟩,?_⟩;rintro T i _ _ ⟨b,rfl,hj,rfl,U,rfl⟩;refine al.dec (λb7=>?_) (λb8=>?_)
  ·obtain⟨b4,o4,V,a3,a4,-,a5⟩:=R.l_ (i:=b) oM
   obtain⟨b5,o5,W,a6,a7,-,a8⟩:=a2.l_ (i:=b) oM;have X:f.aP.getD b 0=V:=by rw[QQ,a4];rfl
   have Y:e.aP.getD b 0=W:=by rw[QQ,a7];rfl
   refine⟨b4,o4,a3,oM,oM,V,a5,_,_,_,ae Q rfl,b5,o5,a6,oM,oM,W,a8,al.dec (λa9=>g r ?_) (λb9=>?_)⟩
   ·rw[k]
    simp only[Bool.and_eq_false_iff];right;rw[List.all_eq_false];exact⟨b,by simp;omega,by rw[X,Y];simpa using a9⟩
   ·refine⟨_,oM,b+1,aq oM,oM,rfl,λh L=>?_,rfl⟩
    by_cases b0:h=b
    ·subst b0;rw[X,Y];omega
    ·exact U h oM
  ·refine g r ?_
   rw[k];simp only[QK,List.all_eq_true,decide_eq_true_eq];exact⟨oM,λh L=>U h (by simp at L;omega)⟩
def Rn(f:cf w p F S)(l:Int×Int):
  Calls XP 301 #[ZQ p,Ec l] w (Ok λA w'=>∃d e g G,A= .tuple #[jA ((S.get l).getD rl) d e g,.bool (S.get l).isSome]/\Row aJ 8 w' G d e ((S.get l).getD rl).aP/\(∀a,G a->w.heap.size<=a/\a<w'.heap.size)/\ai w w'):=by
 obtain⟨M,q,f⟩:=f;obtain⟨j,k⟩:=l;refine wA (PA.mk λw1 N s1 m=>PA.mk λB C s2 v=>λn E=>?_);have x:ai B n:=E.af;have s3:n.heap.size=B.heap.size:=by rw[E.heap]
 have m:=x.get (C.get m id) id;have v:=x.get v id;have H:=(N.then C).then x;have y:=f.ah H;have a2:=f.map.lt;have a3:=ax f.at';obtain⟨c,d,e,g,a,h,i,I,O,P⟩:∃(c:aj) (d:Option Addr) (e g:Nat) (a:Bool),(aE q.l (j,k)).getD (jA rl none 0 0)=jA c d e g/\(aE q.l (j,k)).isSome=a/\(S.get (j,k)).getD rl=c/\(S.get (j,k)).isSome=a/\Row aJ 8 n q.D d e c.aP:=by
  rcases y.look M (j,k)with⟨h,i⟩|⟨A,Q,h,i,R,T,U,rfl,V,a4⟩
  ·exact⟨rl,none,0,0,false,by rw[h];rfl,by rw[h];rfl,by rw[i];rfl,by rw[i];rfl,Row.nil _ _⟩
  ·exact⟨Q,R,T,U,true,by rw[h];rfl,by rw[h];rfl,by rw[i];rfl,by rw[i];rfl,V⟩
 have J:∀a,q.D a->a<w.heap.size:=λa b=>f.aB a (f.sub a (.inr (.inr (.inr b))));refine⟨λa=>a=n.heap.size,p,0,rfl,oM,_,ae y.at' rfl,oM,_,_,ae m rfl,ae m rfl,bN (ri c d e g) ⟨a,λw' W=>?_,PA.mk λw4 o s4 X=>⟨ai.af o,az (aV c d e g) X rfl λw5 r s5 Y=>⟨r,?_⟩⟩⟩⟩
 ·have:=dK QE VK (y.map.af W oM) (j,k) true
  rw[h,i]at this;exact this
 have Z:=(P.ah o).af r λa b hn=>by have:=J a b;omega
 refine au (aV c d e g) Y (PC.ok (lZ Z λa b=>by have:=J a b;omega) ?_);rintro _ w6 ⟨s,t,u,G,rfl,a0,K,z⟩;have a1:=z.get (r.get (o.get v id) oM) id;have z6:=z.size;refine bN (ri c s t u) ⟨rfl,az (aV c s t u) a1 rfl λw7 L s7 g7=>au (aV c s t u) g7 (Ok.mk ⟨s,t,u,G,by rw[I,O],?_,?_,?_⟩)⟩
 ·rw[I];exact a0.af L λa b hn=>by have:=K a b;omega
 ·intro a b;have:=K a b;omega
 ·exact(((H.then o).new r λa b=>.inr oM).then z).new L λa b=>.inr oM
end
section
variable {w w' w1:World} {p:Nat} {F T:Nat->Prop} {S:aw} {q:QG}
def CP{S:aw}:((List.range a).any λb=>!S.ly o b)=false↔∀b,b<a->S.ly o b=true:=by
 simp[List.any_eq_false]
def tO(g:cf w p F S){e:aj}{D:Nat->Prop}(B:Row aJ 8 w D d a e.aP)(hD:∀b,D b->b<w.heap.size/\¬F b)(he:e.Ok)(hl:S.l.length<4611686018427387904):
  Calls XP 74 #[ZQ p,jA e d a c] w (Ok λC w'=>C= XH (S.add e).1/\∃E,cf w' p E (S.add e).2/\bK F w E w'):=by
 have eX:=g;obtain⟨H,q,g⟩:=g;have hN:=H.n;have b2:=g.len;have j0:=ax g.at';have j1:=g.map.lt;have d5:=g.Vx H;have h:∀{no:Int} {w':World},ai w w'->S.add e=(no,S)->Ok (λC w'=>C= XH (S.add e).1/\∃E,cf w' p E (S.add e).2/\bK F w E w') (.returned (XH no)) w':=λ{no w'} hg ha=>by
  refine Ok.mk ⟨by rw[ha],F,?_,ai.af hg,λb f=>.inl f⟩;rw[ha];exact eX.ah hg
 refine vY (PA.mk λw1 k1 s1 g1=>λw2 d2=>?_);have k2:ai w1 w2:=d2.af;have s2:w2.heap.size=w1.heap.size:=by rw[d2.heap]
 have O:=k1.then k2;have g2:=k2.get g1 id;have h5:=g.ah O;refine au (aV e d a c) g2 ⟨p,0,rfl,_,_,_,ae h5.at' rfl,PC.ok (xB (B.ah O) (by rw[b2];omega)) ?_⟩;rintro _ w3 ⟨rfl,P⟩;rw[b2];refine⟨_,rfl,al.dB (λI=>h (O.then P) ?_) (λQ=>?_)⟩
 ·rw[aw.add_def,if_pos I]
 obtain⟨c1,c4,c3,c5,c6,c7,c8,c9,f0,j2⟩:=qQ Q;obtain⟨o,r⟩:∃o:Nat,e.origin=o:=⟨e.origin.toNat,oM⟩
 have J:o<S.n:=oM
 intro w4 d4;have k4:ai w3 w4:=d4.af;have s4:w4.heap.size=w3.heap.size:=by rw[d4.heap]
 have d6:=(O.then P).then k4;have z3:=P.size;have g4:=k4.get (P.get g2 id) id;have b3:=g.ah d6;obtain⟨s,a5,n5,d8,b,n,K,k⟩:∃(s:aj) (d:Option Addr) (a c:Nat) (b:Bool),(aE q.l (aW e)).getD (jA rl none 0 0)=jA s d a c/\(aE q.l (aW e)).isSome=b/\(S.get (aW e)).isSome=b:=by
  rcases b3.look H (aW e)with⟨n,K⟩|⟨C,a0,n,K,b8,n3,c3,rfl,j3,j4⟩
  ·exact⟨rl,none,0,0,false,by rw[n];rfl,by rw[n];rfl,by rw[K];rfl⟩
  ·exact⟨a0,b8,n3,c3,true,by rw[n];rfl,by rw[n];rfl,by rw[K];rfl⟩
 refine⟨λb=>b=w4.heap.size,p,0,rfl,oM,_,ae b3.at' rfl,oM,_,_,ae g4 rfl,ae g4 rfl,bN (ri s a5 n5 d8) ⟨b,λw' L=>?_,PA.mk λw5 k5 s5 g5=>⟨ai.af k5,az (aV s a5 n5 d8) g5 rfl λw6 k6 s6 g6=>⟨k6,?_⟩⟩⟩⟩
 ·have:=dK QE VK (b3.map.af L oM) (aW e) true
  rw[n,K]at this;exact this
 have R:ai w w6:=(d6.then k5).new k6 λb f=>.inr oM;have b4:=k6.get (k5.get g4 id) oM;have h6:=g.ah R;refine al.mk (λt=>h R ?_) (λhf=>?_)
 ·rw[aw.add_def,if_neg (by simpa using Q),if_pos (by rw[k,t])]
 obtain⟨c0,o8,x8,h7,d9,-,h8⟩:=(d5.ah R).l_ (i:=o) oM;have e0:x8=(S.EA o:Int):=by rw[S.oh J]at d9;exact(XJ d9).symm
 subst e0;have j5:=S.Qo o;refine⟨_,ae b4 rfl,p,0,rfl,_,_,_,ae h6.at' rfl,_,ae b4 rfl,c0,o8,h7,c1,oM,_,by rw[r];exact h8,λw7 d7=>?_⟩;have k7:ai w6 w7:=d7.af;have s7:w7.heap.size=w6.heap.size:=by rw[d7.heap]
 have b5:=R.then k7;rw[aq oM];refine al.dB (λI=>h b5 ?_) (λe1=>?_)
 ·rw[aw.add_def,if_neg (by simpa using Q),if_neg (by rw[k,hf];simp),if_pos]
  rw[r,Qx,S.tR J];simpa using I
 have h9:=g.ah b5;have i0:=k7.get b4 id;have c2:e.seq=S.vec.getD e.origin.toNat 0+1:=by rw[r,Qx,S.tR J];simpa using e1
 have l:∀{a1:Int×aw},(if(List.range S.n).any λo=>!S.ly e o then((9:Int),S)else(0,⟨S.n,dd e S.l⟩))=a1->S.add e=a1:=λ{a1} B=>by
  rw[aw.add_def,if_neg (by simpa using Q),if_neg (by rw[k,hf];simp),if_neg (by simpa using c2)];exact B
 refine⟨p,0,rfl,_,_,_,ae h9.at' rfl,λa3 i w'=>∃j:Nat,i=j/\j<=S.n/\a3=S.n-j/\(∀m,m<j->S.ly e m=true)/\ai w7 w',⟨_,0,rfl,Qj _,rfl,λm t=>oM,ak.refl _⟩,?_⟩;rintro a3 i _ w8 ⟨j,rfl,hj,rfl,a4,T⟩;have U:=b5.then T;have e2:=T.get i0 id;have z8:=T.size;rw[b2];refine al.dec (λj6=>?_) (λj7=>?_)
 ·refine au (aV e d a c) e2 (PC.ok (QH (eX.ah U) (B.ah U) he oM (o:=j) oM) ?_)
  rintro _ w9 ⟨rfl,k9⟩;refine⟨_,rfl,al.not (al.mk (λL=>?_) (λL=>h (U.then k9) (l (if_pos ?_))))⟩
  ·refine⟨_,oM,j+1,aq oM,oM,rfl,λm t=>?_,T.then k9⟩
   by_cases i1:m=j
   ·rw[i1];exact L
   ·exact a4 m oM
  ·rw[List.any_eq_true]
   exact⟨j,by simp;omega,by rw[L];rfl⟩
 ·have a6:=l (if_neg (by rw[Bool.not_eq_true,CP];intro m t;exact a4 m oM))
  intro e3 e4;have e5:ai w8 e3:=e4.af;have j8:e3.heap.size=w8.heap.size:=by rw[e4.heap]
  have M:=U.then e5;have V:=e5.get e2 id;have e6:=g.ah M;have i2:=(B.ah M)
  refine⟨λb=>b=q.r,p,0,rfl,g.Vv,_,ae e6.at' rfl,oM,_,_,ae V rfl,ae V rfl,au (aV e d a c) V (PC.ok (lZ i2 λb f=>by have:=(hD b f).1;have:=M.size;omega) ?_)⟩;rintro _ i3 ⟨b7,b9,d0,G,rfl,e7,hG,W⟩;have a7:=M.then W;have X:=g.ah a7;have i9:=M.size;refine bN (ri e b7 b9 d0) ⟨rfl,ai.af W,cW (enc:=Ec) (k:=aW e) QE VK X.map λe8 e9 u j9=>⟨u,λf2 f3=>?_⟩⟩;have v:ai e8 f2:=f3.af;have k0:f2.heap.size=e8.heap.size:=by rw[f3.heap]
  have a8:=v.get (u.get X.at' g.Vv) id;have a9:=v.get (u.get (W.get V id) oM) id;have b0:=(X.vec.af u λb f e=>g.Uz.2 (e▸f)).ah v;obtain⟨f5,f6,i4,a2,b1,-,f8⟩:=(b0.row (bytes:=8) dC (by rw[S.bL];unfold aK;omega)).l_ (i:=o) oM;have d1:i4=(S.EA o:Int):=by rw[S.oh J]at b1;exact(XJ b1).symm
  subst d1;refine⟨p,0,rfl,_,_,_,ae a8 rfl,_,ae a9 rfl,f5,f6,a2,c1,oM,_,by rw[r];exact f8,f5,f6,a2,c1,oM,?_⟩;rw[r,Qx,aq oM];refine QF b0 (by rw[S.bL];exact J) (by unfold aH;omega) a2 λg0 g3 N l0=>λg7 g8=>?_;have x:ai g0 g7:=g8.af;have l3:g7.heap.size=g0.heap.size:=by rw[g8.heap]
  have y:∀b,aF q.a=some b->q.V b:=λb f=>g.vec.self b f;have i5:¬aF q.a=some p:=λe=>g.Uz.1 (y p e);have i6:¬aF q.a=some w.heap.size:=λe=>by have:=g.vec.aB _ (y _ e);omega
  have b6:=x.get (N.get a8 i5) id;have g9:=x.get (N.get a9 i6) id;refine⟨p,0,rfl,_,ae b6 rfl,_,ae g9 rfl,p,0,rfl,PS.mk b6 sM λh3 Y l4 i7=>?_⟩;have l5:=W.size;have i8:¬aF q.a=some q.r:=λe=>g.Uz.2 (y _ e);refine Ok.mk ⟨by rw[a6],λb=>F b\/G b,?_,?_,?_⟩
  rotate_left
  ·have Z:ak F w h3:=((((ai.af a7).then (u.mono λb _ f=>g.sub b (.inr (.inl f)))).then (ai.af v)).then ((N.mono λb _ f=>g.sub b (.inr (.inr (.inl (y b f))))).then (ai.af x))).then (Y.mono λb _ f=>g.sub b (.inl f))
   exact Z
  ·intro b f;rcases f with f|f
   ·exact .inl f
   ·exact .inr (by have:=hG b f;omega)
  have h4:=(aw.zy H he).1;rw[a6]at h4⊢;have z:∀b,G b->b≠p/\b≠q.r/\¬q.V b:=λb f=>by
   have:=hG b f;refine⟨oM,oM,λhv=>?_⟩;have:=g.vec.aB b hv;omega
  refine⟨h4,⟨q.a,q.n,q.c,q.r,q.V,λb=>q.D b\/G b,aI q.l (aW e) (jA e b7 b9 d0),aI q.L (aW e) e⟩,?_,?_,?_,?_,?_,?_,?_,?_,g.Vv,g.Uz,?_,?_⟩
  ·have t:(if e.ay>S.top then e.ay else S.top)=max S.top e.ay:=by split<;>omega
   rw[i7,aw.SA,<-t];rfl
  ·rw[show aw.vec ⟨S.n,dd e S.l⟩=S.vec.set o ((S.EA o+1:Nat):Int) by rw[aw.SB S e r];simp]
   exact(g3.ah x).af Y λb f e=>g.Uz.1 (e▸f)
  ·exact(((e9.ah v).af N i8).ah x).af Y λe=>g.Vv e.symm
  ·have Z:ak (λb=>b=q.r\/aF q.a=some b\/b=p) i3 h3:=((u.mono λb _ f=>.inl f).then (ai.af v)).then (((N.mono λb _ f=>.inr (.inl f)).then (ai.af x)).then (Y.mono λb _ f=>.inr (.inr f)))
   have hd:∀b,q.D b\/G b->¬(b=q.r\/aF q.a=some b\/b=p):=by
    rintro b (f|f) (e|e|e)
    ·exact g.Vw.2 (e▸f)
    ·exact g.WO b (y b e) f
    ·exact g.Vw.1 (e▸f)
    ·exact(z b f).2.1 e
    ·exact(z b f).2.2 (y b e)
    ·exact(z b f).1 e
   refine eT.aI ⟨b7,b9,d0,rfl,(e7.mono λb f=>.inr f).af Z hd,he⟩ (X.rel.mono λC f1 hu=>(hu.mono λb f=>.inl f).af Z hd)
  ·intro s k
   rcases eM k with rfl|k
   ·rfl
   ·exact g.key s k
  ·have d3:aE q.L (aW e)=none:=by
    rw[IG H g.key g.Vu g.tidy];have:=k.trans hf;simpa using this
   have:∀A:List ((Int×Int)×aj),aE A (aW e)=none->aI A (aW e) e=A++[(aW e,e)]:=by
    intro A
    induction A with
    |nil=>intro _;rfl
    |cons a0 A ih=>
     intro hL;obtain⟨y1,y2⟩:=a0;unfold aE at hL;unfold aI;split at hL
     ·cases hL
     ·rename_i I
      rw[if_neg I,ih hL];rfl
   rw[this _ d3,Q3];exact(List.perm_append_comm.trans (List.Perm.cons e g.Vu)).trans (cV e S.l).symm
  ·intro b f
   rcases f with f|f
   ·have:=g.aB b f;omega
   ·have:=hG b f;omega
  ·rintro b (f|f|f|f|f)
   ·exact .inl (g.sub b (.inl f))
   ·exact .inl (g.sub b (.inr (.inl f)))
   ·exact .inl (g.sub b (.inr (.inr (.inl f))))
   ·exact .inl (g.sub b (.inr (.inr (.inr f))))
   ·exact .inr f
  ·refine⟨?_,?_⟩
   ·rintro(f|f)
    ·exact g.Vw.1 f
    ·exact(z _ f).1 rfl
   ·rintro(f|f)
    ·exact g.Vw.2 f
    ·exact(z _ f).2.1 rfl
  ·rintro b hv (f|f)
   ·exact g.WO b hv f
   ·exact(z _ f).2.2 hv
def SC{e b:TypeId}(i:jC h e b 1 8)(f:(h.info? b).bind (·.zero)=some (XH 0))(j:a<=c)(d:c*8<=aK){w:World}{k o:Value->World->Prop}(g:∀w',aO aJ b (·=w.heap.size) w' (ZX w.heap.size) a c (List.replicate a 0)->ai w w'->w'.heap.size=w.heap.size+1->k (.slice (ZX w.heap.size) a c) w'):
  aG h (Instr.makeSlice e (XH (a:Int)) (XH (c:Int))) w k o:=by
 unfold aK at d;obtain⟨p,q,l,m,r,s,z⟩:=i.info;have t:q= XH 0:=by
  rw[l]at f;simp only[Option.bind_some,m]at f;exact XJ f
 subst t;have n:=run_make (P:=h) w e b p _ i.under l m .i64 .i64 a c oM oM (by rw[s];omega) oM;rw[Qx,Qx,r,Nat.mul_one]at n;have u:ai w (w.alloc (.cells (madeCells (Value.int .i64 0).cells c) b)):=ak.alloc w _;have v:(madeCells (Value.int .i64 0).cells c).toList=List.replicate c (XH 0):=by
  unfold madeCells;rw[Array.toList_map];apply List.ext_getElem
  ·simp
  ·intro A B C
   simp[Value.cells,Nat.mod_one]
 refine aG.mk n (g _ ⟨⟨List.replicate a (XH 0),λ_=>False,⟨⟨by simp[aJ,flat],.inr ⟨w.heap.size,c,_,rfl,Qj _,heap_alloc_new w _,j,by unfold maxLen;omega,by simp[size_madeCells,aJ,flat],?_⟩⟩⟩,?_,λ_ g=>g.elim⟩,λx d=>by simpa[aF]using d.symm,λx d=>by subst d;simp⟩ u sM)
 ·rw[v]
  simp only[aJ,flat,Nat.mul_one,List.take_replicate];rw[X2 j]
 ·exact jR.2 ⟨by simp[ints],λE y=>by rw[List.eq_of_mem_replicate y];simp[aH]⟩
def Eu(h:a<=64):Calls XP 71 #[XH (a:Int)] w (Ok λi w'=>∃p F,i= ZQ p/\cf w' p F ⟨a,[]⟩/\(∀b,F b->w.heap.size<=b)/\ai w w'):=by
 refine EN (SC tQ kR (Q4 _) (by unfold aK;omega) λw1 j k s=>⟨_,_,_,rfl,PA.mk λf g t l=>PA.mk λm d u n=>Ok.mk ⟨_,λb=>w.heap.size<=b/\b<m.heap.size,rfl,⟨aw.sF h,⟨_,a,a,w1.heap.size,(·=w.heap.size),λ_=>False,[],[]⟩,n,?_,bD.new (d.get l id),trivial,sM,List.Perm.refl _,λb c=>c.2,?_,by show f.heap.size≠w1.heap.size;omega,⟨by show f.heap.size≠_;omega,by show w1.heap.size≠_;omega⟩,⟨id,id⟩,λ_ _ o=>o⟩,λb c=>c.1,(k.then g).then d⟩⟩)
 ·have q:aw.vec ⟨a,[]⟩=List.replicate a 0:=by
   apply X3;intro r
   by_cases e:r<a
   ·rw[aw.oh ⟨a,[]⟩ e];simp[e,aw.EA]
   ·rw[Q7 (by rw[aw.bL];exact Nat.le_of_not_lt e),Q7 (by simp;omega)]
  rw[q];exact(j.ah g).ah d
 ·rintro b (rfl|rfl|rfl|c)
  ·show _/\_;omega
  ·show _<=w1.heap.size/\w1.heap.size<_;omega
  ·omega
  ·exact c.elim
end
end Go.Proofs.YtjgjkeponbeekaaGreatDoor

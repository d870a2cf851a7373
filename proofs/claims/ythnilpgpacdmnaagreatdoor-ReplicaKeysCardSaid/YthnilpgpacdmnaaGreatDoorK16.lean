import Derived.Test.YthnilpgpacdmnaaGreatDoorK15
import Derived.Laws.StructEq
import Derived.Carry
import Derived.SizedLaws
import Derived.WalkKit
import Derived.ProofKit
import Derived.OpenShut
import Derived.Deep.DeepHandedRow
import Derived.Deep.Slices
namespace Go.Proofs.YthnilpgpacdmnaaGreatDoor
open Go.au
set_option linter.unusedVariables false
set_option maxRecDepth 20000
def kr:ByteArray:=⟨#[109,97,110,105,102,101,115,116,46,116,109,112]⟩
def rF:ByteArray:=⟨#[109,97,110,105,102,101,115,116]⟩
def nq (D:an):Int×an:=if(aD D.files kr).isSome then D.delete kr else(0,D)
def rJ (a:List Int):Nat->an->Int×an
 |0,D=>nq D
 |1,D=>D.create kr
 |2,D=>D.append kr (qs a)
 |3,D=>D.sync kr
 |_,D=>D.rename kr rF
def wi (a:List Int):Nat->Nat->an->Int×an
 |_,0,D=>(0,D)
 |b,c+1,D=>if(rJ a b D).1≠0 then((rJ a b D).1,(nq (rJ a b D).2).2)else wi a (b+1) c (rJ a b D).2
def bZ (D:an) (a:List Int):Int×an:=if 64<a.length then(3,D)else wi a 0 5 D
def eK (D:an):Option (List Int):=if(D.read rF).2≠0 then none else iW (D.read rF).1
theorem Hm (a:List ByteArray):(tV a).Perm a:=List.mergeSort_perm _ _
variable{w:ByteArray}{g0:List ByteArray}{u:List Int}{H e5:List aj}{a c i l:Nat}{a2 f:Nat->Prop}{d p:Option Addr}{b:World}{N m:aj}
theorem Ms {D:an} :w∈D.list↔(aD D.files w).isSome=true:=by
 unfold an.list;rw [(Hm _).mem_iff];constructor
 ·intro a
  cases b:aD D.files w with
  |none=>exact absurd a (qu.1 b)
  |some c=>rfl
 ·intro a
  obtain⟨c,d⟩:=Option.isSome_iff_exists.1 a;exact Xk.2 ⟨_,bQ d,rfl⟩
theorem mM (D:an):D.list.length=D.files.length:=by unfold an.list tV;simp
theorem Mt (b:List Int) (e:a<5) (D:an):wi b a (5-a) D=if(rJ b a D).1≠0 then((rJ b a D).1,(nq (rJ b a D).2).2)else wi b (a+1) (5-(a+1)) (rJ b a D).2:=by
 obtain⟨c,d⟩:∃c,5-a=c+1:=⟨4-a,oM⟩
 rw [d,show 5-(a+1)=c by omega]
 rfl
theorem EY {D:Nat->Prop} (f:Row LR 16 b D d a g0):
  Calls Tryz.prog 295 #[.slice d a c,.string w] b (Ok λp g=>(∃m:Int,p= .int .i64 m/\(0<=m↔w∈g0))/\b=g):=by
 have v:=f.len;have q:=f.dt;unfold aI at q;refine iY ⟨λn i g=>∃e:Nat,i=e/\e<=a/\n=a-e/\w∉g0.take e/\b=g,⟨_,0,rfl,Qj _,rfl,sM,rfl⟩,?_⟩;rintro n i _ _ ⟨e,rfl,x,rfl,j,rfl⟩;refine al.dec (λr=>?_) (λr=>?_)
 ·obtain⟨s,k,y,rfl,o,_,t⟩:=f.kp (i:=e) oM
  refine⟨s,k,rfl,oM,oM,_,t,al.UA (λl=>?_) (λl=>?_)⟩
  ·exact Ok.mk ⟨⟨_,rfl,λ_=>l▸QZ o,λ_=>oM⟩,rfl⟩
  ·refine⟨_,oM,e+1,aq oM,oM,rfl,?_,rfl⟩
   rw [Qw,o];intro u;rcases Q6.1 u with h|h
   ·exact j h
   ·simp at h;exact l h
 ·rw [Qz oM]at j
  exact Ok.mk ⟨⟨_,rfl,λh=>oM,λh=>absurd h j⟩,rfl⟩
theorem yh {D:Nat->Prop} (e:Row LR 16 b D d a g0):
  Calls Tryz.prog 240 #[.slice d a c,.string w] b (Ok λf g=>f= .bool (decide (w∈g0))/\b=g):=by
 refine gT (PC.ok (EY e) ?_);rintro _ _ ⟨⟨i,rfl,h⟩,rfl⟩;exact⟨_,rfl,Ok.mk ⟨by rw [decide_eq_decide.2 h],rfl⟩⟩
theorem pT {D:an} (c:aP b a f D):Calls Tryz.prog 177 #[.pointer (some ⟨a,0,none⟩)] b (Ok (tX b a f (nq D))):=by
 refine vB (PC.ok (vW c) ?_);rintro _ n ⟨o,p,q,G,rfl,i,d,r⟩;have s:D.list.length<=64:=by rw [mM];exact c.ok.many
 refine⟨_,_,_,rfl,PC.ok (yh (i.row dC (by unfold aI;omega))) ?_⟩;rintro _ _ ⟨rfl,rfl⟩;have h:(kr∈D.list)↔(aD D.files kr).isSome=true:=Ms;refine⟨_,rfl,al.dec (λe=>PC.ok (wK (c.ah d)) λj k l=>kC j k d ?_) (λe=>?_)⟩
 ·have g:nq D=D.delete kr:=by unfold nq;rw [if_pos (h.1 e)]
  rw [g];exact l
 ·have g:nq D=(0,D):=by unfold nq;rw [if_neg λm=>e (h.2 m)]
  rw [g];exact Ok.mk (tX.same (c.ah d) d.af)
theorem AM (E:oR b) (v:Row aG 8 b f d a u) (w:∀k∈u,aK k) (hD:∀g,f g->g<b.heap.size) (F:u.length<=64):
  Calls Tryz.prog 181 #[.agg #[.slice d a c]] b (Ok (oy fg 5 b (qs u))):=by
 have H:=v.len;refine vC (PA.mk λI J s1 x=>⟨_,_,_,ae x rfl,PC.ok (Aa (m:=(a:Int)) (by unfold aK;omega) (Row.nil I λ_=>False) (by unfold aI;omega) λ_ L=>L.elim) ?_⟩);rintro _ M ⟨a2,n2,c2,N,rfl,y,z,O⟩;have P:ai b M:=J.then z;have Q:mY (a:Int)=bJ ((a:Int)::u.take 0):=by simp [bJ]
 rw [List.nil_append,Q]at y;refine⟨_,_,_,rfl,_,_,_,ae (z.get x id) rfl,λA n o p i B=>∃e:Nat,i=e/\e<=a/\A=a-e/\∃C,aO fg 5 C B n o p (bJ ((a:Int)::u.take e))/\ai b B/\∀g,C g->b.heap.size<=g,
  ⟨_,0,rfl,Qj _,rfl,N,y,P,λg l=>by have:=O g l;omega⟩,?_⟩
 rintro A n o p i _ R ⟨e,rfl,hj,rfl,S,h,j,a0⟩;have a1:(bJ ((a:Int)::u.take e)).length<=9*(e+1):=by
  have h1:=eV (l:=(a:Int)::u.take e) (by
   intro k K;rcases Q2.1 K with rfl|K
   ·unfold aK;omega
   ·exact w k (List.mem_of_mem_take K))
  have h2:((a:Int)::u.take e).length=e+1:=by simp;omega
  omega
 have a3:=h.len dC;refine al.dec (λa5=>?_) (λa6=>?_)
 ·obtain⟨g,q,k,rfl,K,T,U⟩:=(v.ah j).kp (i:=e) oM
  refine⟨g,q,rfl,oM,oM,_,U,PC.ok (Aa T (h.row (bytes:=1) dC (by unfold aI;omega)) (by unfold aI;omega) h.aC) ?_⟩;rintro _ V ⟨W,X,Y,r,rfl,m,s,t⟩;refine⟨_,_,_,rfl,_,?_,e+1,aq oM,oM,rfl,r,?_,j.then s,λg l=>by have:=t g l;have:=j.size;omega⟩
  ·omega
  ·have Z:bJ ((a:Int)::u.take (e+1))=bJ ((a:Int)::u.take e)++mY k:=by
    rw [Qw,K,<-List.cons_append,gv]
    congr 1
    simp [bJ]
   rw [Z];exact m
 ·obtain rfl:e=a:=oM
  rw [Qz oM,H]at h
  change aO fg 5 S R n o p (wj u)at h
  have a7:=Df w F;refine PC.ok (CP (E.ah j) (h.row (bytes:=1) dC (by unfold aI;omega)) h.aC) ?_;rintro _ V ⟨_,rfl,W,X,Y,r,rfl,m,s,t⟩;rw [show jq 2 (wj u)=(qs u,0) by unfold jq qs;rw [if_neg dC,if_neg oM]]at m⊢;exact⟨_,_,_,_,rfl,Ok.mk ⟨_,_,_,r,rfl,m,j.then s,λg l=>by have:=t g l;have:=j.size;omega⟩⟩
theorem AN {D:an} (ht:oR b) (hD:aP b a f D) (hl:Row aG 8 b a2 d c u) (a8:∀b8∈u,aK b8) (a3:∀e,a2 e->e<b.heap.size/\¬f e) (a9:∀e,f e->e≠2/\e≠3):
  Calls Tryz.prog 113 #[.pointer (some ⟨a,0,none⟩),.agg #[.slice d c i]] b (Ok (tX b a f (bZ D u))):=by
 have hn:=hl.len;refine vi (PA.mk λw1 k1 s1 g1=>PA.mk λl U s2 g2=>PA.mk λw3 I s3 g3=>⟨_,_,_,ae (I.get g2 id) rfl,al.dec (λh=>?_) (λh=>?_)⟩)
 ·refine PS.mk g3 sM λq C s4 g4=>⟨_,ae g4 rfl,?_⟩
  have m:bZ D u=(3,D):=by unfold bZ;rw [if_pos oM]
  rw [m];have z:ai b q:=((k1.then U).then I).new C λe g=>.inr oM;exact Ok.mk (tX.same (hD.ah z) z.af)
 refine PA.mk λq C s4 g4=>?_;have z:ai b q:=((k1.then U).then I).then C;have m:bZ D u=wi u 0 5 D:=by unfold bZ;rw [if_neg oM]
 rw [m];have J:=hD.aC;refine⟨λa1 N n=>∃(v:Nat) (K:an) (w:Nat->Prop),N=v/\v<=5/\a1=5-v/\wi u 0 5 D=wi u v (5-v) K/\aP n a w K/\ak (λe=>f e\/e=l.heap.size) q n/\(∀e,w e->f e\/q.heap.size<=e)/\n.heap[l.heap.size]? =some (.cells #[.int .i64 0] 34 (0,0)),
  ⟨_,0,D,f,rfl,oM,rfl,rfl,hD.ah z,ak.refl _,λe g=>.inl g,C.get g3 id⟩,?_⟩
 rintro a1 N _ y ⟨v,K,w,rfl,hi,rfl,O,E,F,V,ge⟩;have W:∀e,b.heap.size<=e->e<q.heap.size->¬w e:=λe h1 h2 hf=>by
  rcases V e hf with h|h
  ·have:=J e h;omega
  ·omega
 have P:y.heap[b.heap.size]? =some (.cells #[.pointer (some ⟨a,0,none⟩)] 73 (0,0)):=F.get (C.get (I.get (U.get g1 id) id) id) (λr=>r.elim (λh=>by have:=J _ h;omega) (λh=>oM));have gm:y.heap[w1.heap.size]? =some (.cells #[.slice d c i] 202 (0,0)):=F.get (C.get (I.get g2 id) id) (λr=>r.elim (λh=>by have:=J _ h;omega) (λh=>oM));have Q:=F.get g4 (λr=>r.elim (λh=>by have:=J _ h;omega) (λh=>oM));have c6:=F.size;have x:∀(m:Int) (R:an) (G:Nat->Prop) (k:World),aP k a G R->ak (λe=>f e\/e=l.heap.size) q k->(∀e,G e->f e\/q.heap.size<=e)->k.heap[l.heap.size]? =some (.cells #[.int .i64 m] 34 (0,0))->
   wi u 0 5 D=(m,if m≠0 then(nq R).2 else R)->
   Lv Tryz.prog (λb0=>∃B:Int,b0.cell? ⟨l.heap.size,0,none⟩=some (.int .i64 B)/\Ok (tX b a f (wi u 0 5 D)) (.returned (.int .i64 B)) b0) (λch n=>Ok (tX b a f (wi u 0 5 D)) (.panicked ch) n)
    ([{target:=.fn (.func 176) #[.pointer (some ⟨l.heap.size,0,none⟩),.pointer (some ⟨b.heap.size,0,none⟩)],args:= #[]}]:List Deferred) .returning k:=by
  intro m R G k hE s hG X hr;have b9:k.heap[b.heap.size]? =some (.cells #[.pointer (some ⟨a,0,none⟩)] 73 (0,0)):=s.get (C.get (I.get (U.get g1 id) id) id) (λr=>r.elim (λh=>by have:=J _ h;omega) (λh=>oM));have o:∀p (L:Nat->Prop) (E':an),aP p a L E'->cz G k L p->wi u 0 5 D=(m,E')->∃B:Int,p.cell? ⟨l.heap.size,0,none⟩=some (.int .i64 B)/\Ok (tX b a f (wi u 0 5 D)) (.returned (.int .i64 B)) p:=by
   intro p L E' a4 t a0;have c0:¬G l.heap.size:=λh=>(hG _ h).elim (λh=>by have:=J _ h;omega) (λh=>oM);have c7:=s.size;refine⟨m,ae (t.af.get X c0) rfl,Ok.mk ?_⟩;rw [a0];refine⟨L,rfl,a4,?_,λe g=>?_⟩
   ·have c1:ak f b k:=z.af.new s λe g=>g.imp id λh=>by omega
    exact c1.new t.af λe g=>(hG e g).imp id λh=>by omega
   ·rcases t.new e g with h|h
    ·exact(hG e h).imp id λh=>by omega
    ·exact .inr oM
  refine Lv.one sM kR (CallsD.mono (qD (R:=λe' p=>e'= .returned (.tuple #[])/\∃B:Int,p.cell? ⟨l.heap.size,0,none⟩=some (.int .i64 B)/\Ok (tX b a f (wi u 0 5 D)) (.returned (.int .i64 B)) p) ⟨_,ae X rfl,al.df (λY=>?_) (λZ=>?_)⟩) ?_)
  ·refine⟨_,ae b9 rfl,PC.ok (pT hE) ?_⟩
   rintro _ p ⟨L,rfl,a4,t⟩;exact⟨_,rfl,rfl,o p L _ a4 t (by rw [hr,if_pos Y])⟩
  ·exact⟨rfl,o k G R hE (cz.refl _ _) (by rw [hr,if_neg (by simpa using Z)])⟩
  ·rintro e' u' p ⟨rfl,rfl,hX⟩
   exact Lv.ret rfl hX
 refine al.dec (λc8=>?_) (λc9=>?_)
 ·have b1:v<5:=oM
  have step:∀κ ε,(∀A n,tX y a w (rJ u v K) A n->κ A n)->∃b2:Value,y.cell? ⟨w3.heap.size,0+Int.toNat (v:Int),none⟩=some b2/\∃a5 a7 b3,b2= .func (.func a5) a7 b3/\enters Tryz.prog a5=true/\PC Tryz.prog a5 (a7++ #[]++b3) y κ ε:=by
   intro κ ε j;rw [Qx,Xz];have o:∀{b4:Int×an} {A n},tX y a w b4 A n->∃N:Int,A= .int .i64 N/\Ok (tX y a w b4) (.returned (.int .i64 N)) n:=λh=>kC _ _ (ak.refl _) h
   match v,b1,j with
   |0,_,j=>exact⟨_,ae Q rfl,_,_,_,rfl,kR,PC.ok (sr ⟨_,ae P rfl,PC.ok (pT E) λA n h=>o h⟩) j⟩
   |1,_,j=>exact⟨_,ae Q rfl,_,_,_,rfl,kR,PC.ok (ss ⟨_,ae P rfl,PC.ok (wL E) λA n h=>o h⟩) j⟩
   |2,_,j=>
    refine⟨_,ae Q rfl,_,_,_,rfl,kR,PC.ok (φ:=tX y a w (rJ u 2 K)) (su λk d6=>?_) j⟩;have s:ai y k:=d6.af;have H:ak (λe=>f e\/e=l.heap.size) q k:=F.then s.af;have c2:Row aG 8 k a2 d c u:=(hl.ah z).af H λe g r=>r.elim (a3 e g).2 λh=>by have:=(a3 e g).1;omega
    have c3:oR k:=by
     have:=(ht.ah z)
     have d0:b.heap.size<=q.heap.size:=z.size;have h1:=ht.lt;have hz:=H.size;refine⟨λS hj=>?_,λS hj=>?_,oM⟩
     ·exact(this.lower S hj)▸H.cell (a:=⟨2,S,none⟩) (by show 2<_;omega) (λr=>r.elim (λh=>(a9 _ h).1 rfl) (λh=>by have h:2=l.heap.size:=h;omega))
     ·exact(this.upper S hj)▸H.cell (a:=⟨3,S,none⟩) (by show 3<_;omega) (λr=>r.elim (λh=>(a9 _ h).2 rfl) (λh=>by have h:3=l.heap.size:=h;omega))
    refine⟨w,W _ (Q4 _) oM,_,ae (s.get P id) rfl,_,_,_,ae (s.get gm id) rfl,PC.ok (AM c3 c2 a8 (λe g=>by have:=(a3 e g).1;have:=z.size;have:=H.size;omega) oM) ?_⟩;rintro _ p ⟨d1,n7,d2,F7,rfl,a6,M,c4⟩;have d3:=AO u;have d4:=Df a8 oM;refine⟨_,_,_,rfl,M.af,PC.ok (wM ((E.ah s).ah M) (a6.row dC (by unfold aI;omega)) (λm=>a6.LK m) λe g=>⟨a6.aC e g,λhf=>by have:=E.aC e hf;have:=c4 e g;have:=s.size;omega⟩) ?_⟩;rintro _ w8 ⟨F8,rfl,c5,t⟩;exact⟨_,rfl,t.af,Ok.mk ⟨F8,rfl,c5,(cz.mk (ai.af (s.then M)) λ_ h=>.inl h:cz w y w p).trans t⟩⟩
   |3,_,j=>exact⟨_,ae Q rfl,_,_,_,rfl,kR,PC.ok (sv ⟨_,ae P rfl,PC.ok (CI E) λA n h=>o h⟩) j⟩
   |4,_,j=>exact⟨_,ae Q rfl,_,_,_,rfl,kR,PC.ok (sw ⟨_,ae P rfl,PC.ok (GM E) λA n h=>o h⟩) j⟩
  refine⟨_,_,rfl,oM,oM,step _ _ ?_⟩;rintro _ k ⟨F6,rfl,h6,t⟩;have b5:∀e,F6 e->e≠l.heap.size:=λe g m=>by
   subst m;rcases t.new _ g with h|h
   ·exact W _ oM oM h
   ·omega
  have b6:∀e,F6 e->f e\/q.heap.size<=e:=λe g=>by
   rcases t.new e g with h|h
   ·exact V e h
   ·exact .inr oM
  have H:ak (λe=>f e\/e=l.heap.size) q k:=F.new t.af λe g=>(V e g).imp .inl id;refine⟨_,rfl,PS.mk (t.af.get ge (W _ oM oM)) sM λp M s7 T=>?_⟩;have h7:=h6.af M λe g=>b5 e g;have b7:ak (λe=>f e\/e=l.heap.size) q p:=H.then (M.mono λe _ g=>.inr g);rw [Mt u b1]at O;refine⟨_,ae T rfl,al.df (λY=>?_) (λZ=>?_)⟩
  ·refine⟨_,ae T rfl,PS.mk T sM λw8 k8 s8 g8=>?_⟩
   exact x _ _ F6 w8 (h7.af k8 λe g=>b5 e g) (b7.then (k8.mono λe _ g=>.inr g)) b6 g8 (by rw [O,if_pos Y,if_pos Y])
  ·rw [if_neg (by simpa using Z)]at O
   rw [Z]at T;exact⟨rfl,_,oM,v+1,_,F6,aq oM,oM,rfl,O,h7,b7,b6,T⟩
 ·obtain rfl:v=5:=oM
  refine⟨_,ae ge rfl,PS.mk ge sM λk s s6 X=>?_⟩;refine x 0 K w k (E.af s λe g m=>W e oM oM g) (F.then (s.mono λe _ g=>.inr g)) V X ?_;rw [O];rfl
theorem Cj {D:an} (ht:oR b) (hD:aP b a f D):
  Calls Tryz.prog 110 #[.pointer (some ⟨a,0,none⟩)] b (Ok λQ j=>∃o p q G,Q= .tuple #[.agg #[.slice o p q],.bool (eK D).isSome]/\aO aG 3 G j o p q ((eK D).getD [])/\ai b j/\∀c,G c->b.heap.size<=c):=by
 refine xJ (PA.mk λB E s1 g1=>PC.ok (vV (hD.ah E)) ?_);rintro _ w2 ⟨_,rfl,a7,n2,c2,F2,rfl,v,R,e7⟩
 change aO fg 5 F2 w2 a7 n2 c2 (D.read rF).1 at v
 have b3:(D.read rF).1.length<=262144:=by
  unfold an.read;split
  ·simp
  ·split
   ·simp
   ·rename_i e8 hf;exact hD.ok.len (bQ hf)
 have a3:∀{j},ai B j->j.heap[b.heap.size]? =some (.cells #[.slice none 0 0] 202 (0,0)):=λhk=>hk.get g1 id;have g:eK D=none->∀w,ai B w->PS w ⟨b.heap.size,0,none⟩ (.slice none 0 0) λx=>∃(b4:Option Addr) (b5:Nat) (b6:Nat),x.cell? ⟨b.heap.size,0,none⟩=some (.slice b4 b5 b6)/\
   Ok (λQ j=>∃o p q G,Q= .tuple #[.agg #[.slice o p q],.bool (eK D).isSome]/\aO aG 3 G j o p q ((eK D).getD [])/\ai b j/\∀c,G c->b.heap.size<=c) (.returned (.tuple #[.agg #[.slice b4 b5 b6],.bool false])) x:=by
  intro S w F;refine PS.mk (a3 F) sM λw4 T s4 U=>⟨_,_,_,ae U rfl,?_⟩
  rw [S];exact Ok.mk ⟨none,0,0,λ_=>False,rfl,aO.nil w4,(E.then F).new T λc d=>.inr oM,λ_ h=>h.elim⟩
 refine⟨_,_,_,_,rfl,al.df (λn=>g (by unfold eK;exact if_pos n) w2 R) (λS=>?_)⟩;have C:eK D=iW (D.read rF).1:=by unfold eK;exact if_neg λh=>h S
 generalize(D.read rF).1=H at v b3 C;have d5:=v.len dC;refine PC.ok (CQ (ht.ah (E.then R)) (v.row (bytes:=1) dC (by unfold aI;omega)) v.jD v.aC) ?_;rintro _ w ⟨c3,n3,d1,F3,rfl,b7,F,e9⟩;refine⟨_,_,_,_,_,_,rfl,PA.mk λw4 T s4 U=>PS.mk U sM λw5 k5 s5 g5=>PS.mk g5 sM λy k6 s6 g6=>?_⟩;have V:y.heap[w.heap.size]? =some (.cells #[.int .i64 (bk H).kind,.slice c3 n3 d1] 280 (0,0)):=g6;have W:ai w y:=(T.new k5 λc d=>.inr oM).new k6 λc d=>.inr oM;have t:ai B y:=(R.then F).then W;have f0:=W.size;refine al.df (λn=>g (by rw [C];unfold iW;exact if_pos (.inl n)) y t) (λb8=>?_);refine al.df (λn=>g (by rw [C];unfold iW;exact if_pos (.inr (.inl λi=>n (by rw [i,d5])))) y t) (λg0=>?_);refine⟨_,ae V rfl,al.df (λn=>g (by rw [C];unfold iW;exact if_pos (.inr (.inr n))) y t) (λd6=>?_)⟩;have X:eK D=if jO (ns (bk H).body).2≠0 then none else some (ns (bk H).body).1:=by
  rw [C];unfold iW;refine if_neg ?_;rintro(h|h|h)
  ·exact h b8
  ·exact h oM
  ·exact h d6
 have Y:=b7.ah W;obtain⟨g2,h9,d7⟩:=ue b8;generalize(bk H).body=e at Y X d7 V b7;refine⟨_,_,_,ae V rfl,PC.ok (CM (Y.row (bytes:=1) dC (by unfold aI;omega)) Y.aC) ?_⟩;rintro _ x ⟨I,a4,rfl,J,k7,hP⟩;refine⟨_,rfl,PA.mk λw8 k8 s8 g8=>PC.ok (GP (m:=64) (J.ah k8)) ?_⟩;rintro _ u ⟨rfl,Z,k9⟩;have b9:=J.aC;have hq:=J.self;have g3:=b9 I hq;have g7:=hP I hq;obtain⟨c1,a8,c0,c4⟩:=ki.Fit.count (r:=⟨e,0,0⟩) ⟨Qj _,.inl rfl⟩ (m:=64) oM;have g9:u.heap[x.heap.size]? =some (.cells #[.slice none 0 0] 202 (0,0)):=k9.get g8 (λi=>oM);have K:ns e=bf (bW 64 ⟨e,0,0⟩).1.toNat (bW 64 ⟨e,0,0⟩).2:=rfl;have L:ai B u:=((t.then k7).then k8).new k9 λc d=>.inr (by have:=t.size;omega);generalize h2:bW 64 ⟨e,0,0⟩=ct at Z c1 a8 c0 c4 K;obtain⟨cn,M⟩:=ct;simp only at Z c1 a8 c0 c4 K;refine⟨_,rfl,λm a5 j=>∃k:Nat,a5=k/\(k:Int)<=cn/\m=cn.toNat-k/\eF j I a4 (bf k M).2/\ai B j/\∃o p q G,j.heap[x.heap.size]? =some (.cells #[.slice o p q] 202 (0,0))/\aO aG 3 G j o p q (bf k M).1/\(∀c,G c->u.heap.size<=c)/\u.heap.size<=j.heap.size,
  ⟨_,0,rfl,a8,rfl,Z,L,none,0,0,λ_=>False,g9,aO.nil u,λ_ h=>h.elim,Q4 _⟩,?_⟩
 have h3:=k9.size;rintro m a5 _ c5 ⟨k,rfl,hj,rfl,a0,N,c6,c7,c8,c9,a9,z,r,f2⟩;have d8:∀c,a4 c->c<u.heap.size:=λc d=>by have:=b9 c d;omega
 refine al.dec (λh4=>?_) (λh5=>?_)
 ·intro O b0
  have l:ai c5 O:=b0.af;refine⟨(λc=>c=I\/c9 c),λhs=>hs.elim (λi=>oM) (λi=>by have:=r _ i;omega),_,_,_,ae (l.get a9 id) rfl,PC.ok (Ex (a0.ah l)) ?_⟩;rintro _ d0 ⟨rfl,d2,s⟩;obtain⟨f1,f4,f3,f5⟩:=c1.ints k;obtain⟨f7,f6,f8⟩:=f1.int;refine⟨_,rfl,s.mono λc _ d=>.inl d,?_⟩;have a1:=(z.ah l).af s λc d i=>by have:=r c d;omega
  refine PA.mk λh6 A h7 d9=>⟨A.af,?_⟩
  have d4:=a1.ah A;have d3:(bf k M).1.length=k:=f3;refine jM d4 rm (D:=(·=d0.heap.size)) (Row.lit d9 [(eW (bf k M).2).1] rfl (λf9 hx=>by simp at hx;subst hx;exact f6) (by unfold aI;simp)) (λc i=>⟨oM,λe2=>by have:=a1.aC c (a1.self c e2);omega⟩) (by rw [d3];unfold aI;simp;omega) (by rw [d3];unfold maxLen;simp;omega) λb1 e0 e1 h8 a2 P _ e3=>?_
  replace a2:=a2.alone
  have e4:e1.heap[x.heap.size]? =some (.cells #[.slice c6 c7 c8] 202 (0,0)):=P.get (A.get (s.get (l.get a9 id) (λi=>oM)) id) (λi=>by have:=r _ (z.self _ i);omega);have z1:=l.size;have z2:=s.size;have z3:=A.size;have z4:=P.size;have a6:∀c,aF b1=some c->u.heap.size<=c:=λc d=>by
   rcases e3 c d with h|h
   ·exact r c h
   ·omega
  refine⟨_,_,_,rfl,PS.mk e4 sM λi0 b2 i1 e5=>⟨_,oM,k+1,aq oM,oM,rfl,?_,?_,b1,_,e0,(λc=>aF b1=some c),e5,?_,a6,oM⟩⟩
  ·refine(((d2.ah A).af P λc d i=>by have:=d8 c d;have:=r c (z.self c i);omega)).af b2 λc d i=>by have:=J.aC c d;omega
  ·refine((((N.then l).new s λc d=>.inr (by have:=t.size;omega)).then A).new P λc d=>.inr (by have:=r c (z.self c d);have:=L.size;omega)).new b2 λc d=>.inr (by have:=(t.then k7).size;omega)
  ·exact a2.af b2 λc d i=>by have:=a6 c d;omega
 ·obtain rfl:cn=(k:Int):=oM
  rw [Qx]at K;rw [<-K]at a0 z;refine PC.ok (KB a0) ?_;rintro _ O ⟨rfl,b0⟩;have l:ai c5 O:=b0.af;refine⟨_,rfl,al.df (λn=>g (by rw [X];exact if_pos n) O (N.then l)) (λh0=>?_)⟩;have hS:eK D=some (ns e).1:=by rw [X];exact if_neg λh=>h h0
  rw [hS];refine⟨_,_,_,ae (l.get a9 id) rfl,PS.mk (a3 (N.then l)) sM λd0 s i2 e6=>⟨_,_,_,ae e6 rfl,Ok.mk ⟨c6,c7,c8,c9,rfl,?_,?_,?_⟩⟩⟩
  ·exact(z.ah l).af s λc d i=>by have:=r c d;have:=L.size;omega
  ·exact(E.then (N.then l)).new s λc d=>.inr oM
  ·intro c d;have:=r c d;have:=L.size;omega
theorem Jo {x y:Operand} {a b c d:Int} {w:World}:(do eqGuard .eql 48 x y (.agg #[.int .i64 a,.int .i64 b]) (.agg #[.int .i64 c,.int .i64 d]);binOp .eql 48 (.agg #[.int .i64 a,.int .i64 b]) (.agg #[.int .i64 c,.int .i64 d]):Sem Value).run Tryz.prog w= .ok (.bool (a==c&&b==d)) w:=by
 have h:Tryz.prog.underlying 48=some (.struct (Tryz.prog.fieldsOf 48)):=kR
 have g:Tryz.prog.underlying 3=some (.int .i64):=kR
 have e:(Tryz.prog.fieldsOf 48).toList.map (λf=>(f.name,f.type,f.offset))=[("Origin",3,0),("Seq",3,1)]:=kR
 rw [Sem.run_bind,run_eqGuard_agg w .eql _ x y _ _ kR,Result.andThen_ok,run_eql_struct,run_equalIn_struct w 9999 _ _ _ h kR];generalize(Tryz.prog.fieldsOf 48).toList=i at e
 match i,e with
 |[f,u],e=>
  simp only [QY,List.map_nil,List.cons.injEq,Prod.mk.injEq,and_true]at e;obtain⟨⟨j,k,l⟩,m,n,o⟩:=e;have p:(isAgg 3).run Tryz.prog w= .ok false w:=cK _ _ _ kR ⟨_,g⟩ w;have q:=run_equalIn_int (P:=Tryz.prog) w 9998 3 .i64 .i64 a c g;have r:=run_equalIn_int (P:=Tryz.prog) w 9998 3 .i64 .i64 b d g;unfold Op.eqFields Op.eqFields Op.eqFields;rw [j,k,l,m,n,o]
  cases s:a==c<;>simp [part,p,q,r,s]
  by_cases t:b=d<;>simp [t]
 |[],e=>simp at e
 |[_],e=>simp at e
 |_::_::_::_,e=>simp at e
theorem lq {e l t u:Nat} {xs ys:List Int} {D v:Nat->Prop} (f:Row aG 8 b D d e xs) (m:Row aG 8 b v p l ys):
  Calls Tryz.prog 20 #[.slice d e t,.slice p l u] b (Ok λw g=>w= .bool (decide (xs=ys))/\bd b g):=by
 have x:=f.len;have y:=m.len;have z:=f.dt;unfold aI at z;refine zf (al.df (λn=>?_) (λn=>?_))
 ·have h:xs≠ys:=by rintro rfl;simp [x,y]at n
  exact Ok.mk ⟨by simp [h],bd.refl b⟩
 ·refine⟨λo i g=>∃a:Nat,i=a/\a<=e/\o=e-a/\xs.take a=ys.take a/\bd b g,⟨_,0,rfl,Qj _,rfl,rfl,bd.refl b⟩,?_⟩
  rintro o i _ L ⟨a,rfl,M,rfl,q,c⟩;refine al.dec (λA=>?_) (λA=>?_)
  ·obtain⟨B,C,N,rfl,r,_,E⟩:=(f.ah c.af).kp (i:=a) oM
   obtain⟨F,H,O,rfl,j,_,I⟩:=(m.ah c.af).kp (i:=a) oM;refine⟨B,C,rfl,oM,oM,_,E,F,H,rfl,oM,oM,_,I,λP s=>?_⟩;refine al.df (λk=>?_) (λk=>?_)
   ·have h:xs≠ys:=by rintro rfl;rw [r]at j;cases j;exact k rfl
    exact Ok.mk ⟨by simp [h],c.then s⟩
   ·subst k
    exact⟨_,oM,a+1,aq oM,oM,rfl,CS q r j,c.then s⟩
  ·have:xs=ys:=by
    have J:xs.take a=xs:=Qz oM;have K:ys.take a=ys:=Qz oM;rw [<-J,<-K,q]
   exact Ok.mk ⟨by simp [this],c⟩
theorem ry {D:Nat->Prop} (l:Row aG 8 b D d a u):
  Calls Tryz.prog 68 #[.slice d a c] b (Ok (oy aG 3 b u)):=by
 have H:=l.len;have v:=l.dt;unfold aI at v;refine zn ⟨λp q e r i s=>i=(e:Int)/\e<=a/\p=a-e/\∃g,aO aG 3 g s q e r (u.take e)/\ai b s/\∀f,g f->b.heap.size<=f,
  ⟨_,rfl,Qj _,rfl,λ_=>False,by simpa using aO.nil b,ak.refl _,λ_ h=>h.elim⟩,?_⟩
 rintro p q e r i _ I ⟨rfl,J,rfl,g,j,k,m⟩;refine al.dec (λw=>?_) (λw=>?_)
 ·obtain⟨f,n,x,rfl,y,z,A⟩:=(l.ah k).kp (i:=e) oM
  have t:(u.take e).length=e:=by simp;omega
  refine⟨f,n,rfl,oM,oM,_,A,FT j rm (x:=x) (D:=λ_=>False) ⟨rfl,z⟩ (λ_ h=>h.elim) (by rw [t];unfold aI;omega) (by rw [t];unfold maxLen;omega) λK L M B C E F _=>?_⟩;refine⟨_,_,_,rfl,a-(e+1),oM,aq oM,oM,rfl,B,?_,k.new E λf o=>.inr (m f (j.self f o)),?_⟩
  ·rw [Qw,y];exact C
  ·intro f o
   rcases F f o with h|h|h
   ·exact m f h
   ·exact h.elim
   ·exact Xx k.size h
 ·obtain rfl:e=a:=oM
  rw [Qz oM]at j;exact Ok.mk ⟨_,_,_,g,rfl,j,k,m⟩
theorem ru {D z:Nat->Prop} (A:Row aG 8 b D d a m.aN) (B:Row aG 8 b z p c N.aN):
  Calls Tryz.prog 42 #[.agg (aB m d a i).toArray,.agg (aB N p c l).toArray] b (Ok λq j=>q= .bool (decide (m=N))/\ai b j):=by
 have no:∀{j},ai b j->m≠N->Ok (λq j=>q= .bool (decide (m=N))/\ai b j) (.returned (.bool false)) j:=λC E=>Ok.mk ⟨by rw [Xv E],C⟩;refine xE (PA.mk λJ F K H=>PA.mk λt u L n=>?_);have f:=u.get H id;have o:ai b t:=F.then u;refine⟨_,_,ae f rfl,ae f rfl,_,_,ae n rfl,ae n rfl,aE.mk Jo ⟨_,rfl,al.mk (λr=>?_) (λr=>?_)⟩⟩
 rotate_left
 ·exact no o λe=>by subst e;simp at r
 refine⟨_,ae f rfl,_,ae n rfl,al.dJ (λv=>?_) (λv=>no o λe=>v (by rw [e]))⟩;refine⟨_,_,_,ae f rfl,_,_,_,ae n rfl,PC.ok (lq (A.ah o) (B.ah o)) ?_⟩;rintro _ w ⟨rfl,I⟩;have s:ai t w:=I.af;have f:=s.get f id;have k:=s.get n id;have h:ai b w:=o.then s;refine⟨_,rfl,al.dec (λx=>?_) (λx=>no h λe=>x (by rw [e]))⟩;refine⟨_,ae f rfl,_,ae k rfl,al.dJ (λM=>?_) (λg=>no h λe=>g (by rw [e]))⟩;refine⟨_,ae f rfl,_,ae k rfl,al.dJ (λO=>?_) (λg=>no h λe=>g (by rw [e]))⟩;refine⟨_,ae f rfl,_,ae k rfl,al.dJ (λP=>?_) (λg=>no h λe=>g (by rw [e]))⟩;refine⟨_,ae f rfl,_,ae k rfl,al.dJ (λQ=>?_) (λg=>no h λe=>g (by rw [e]))⟩;refine⟨_,ae f rfl,_,ae k rfl,al.dJ (λR=>?_) (λg=>no h λe=>g (by rw [e]))⟩;refine⟨_,ae f rfl,_,ae k rfl,Ok.mk ⟨?_,h⟩⟩
 congr 1
 have S:m.origin=N.origin/\m.seq=N.seq:=by simpa using r
 by_cases y:m.key=N.key
 ·have:m=N:=by cases m;cases N;simp_all
  subst this;simp
 ·rw [Xv λe=>y (by rw [e])]
  simp [y]
theorem jQ {f o x y:Nat} {D z:Nat->Prop} (h:Row f_ 96 b D d f H) (q:Row f_ 96 b z p o e5):
  Calls Tryz.prog 12 #[.slice d f x,.slice p o y] b (Ok λA j=>A= .bool (decide (H=e5))/\ai b j):=by
 have B:=h.len;have C:=q.len;have E:=h.dt;unfold aI at E;refine vj (al.df (λr=>?_) (λr=>?_))
 ·have k:H≠e5:=by rintro rfl;simp [B,C]at r
  exact Ok.mk ⟨by simp [k],ak.refl b⟩
 ·refine⟨λs i j=>∃e:Nat,i=e/\e<=f/\s=f-e/\H.take e=e5.take e/\ai b j,⟨_,0,rfl,Qj _,rfl,rfl,ak.refl b⟩,?_⟩
  rintro s i _ S ⟨e,rfl,T,rfl,t,u⟩;refine al.dec (λF=>?_) (λF=>?_)
  ·intro I J
   have g:ai b I:=u.then J.af;obtain⟨K,L,U,V,rfl,_,_,v,M,W,X,Y,rfl,N,Z⟩:=(h.ah g).vO (i:=e) oM;obtain⟨O,P,a0,fs,rfl,_,_,l,Q,a2,n2,c2,rfl,R,a3⟩:=(q.ah g).vO (i:=e) oM;have a:=λi (m:i<10)=>M i m;have c:=λi (m:i<10)=>Q i m;refine⟨K,L,rfl,oM,oM,_,_,_,_,_,_,_,_,_,_,_,_,a 0 dC,a 1 dC,a 2 dC,a 3 dC,a 4 dC,a 5 dC,a 6 dC,a 7 dC,a 8 dC,a 9 dC,?_⟩;refine⟨O,P,rfl,oM,oM,_,_,_,_,_,_,_,_,_,_,_,_,c 0 dC,c 1 dC,c 2 dC,c 3 dC,c 4 dC,c 5 dC,c 6 dC,c 7 dC,c 8 dC,c 9 dC,?_⟩;refine PC.ok (ru N R) ?_;rintro _ w3 ⟨rfl,w⟩;refine⟨_,rfl,al.not (al.dec (λn=>?_) (λn=>?_))⟩
   ·subst n
    exact⟨_,oM,e+1,aq oM,oM,rfl,CS t v l,g.then w⟩
   ·have k:H≠e5:=by rintro rfl;rw [v]at l;cases l;exact n rfl
    exact Ok.mk ⟨by simp [k],g.then w⟩
  ·have:H=e5:=by
    have a:H.take e=H:=Qz oM;have c:e5.take e=e5:=Qz oM;rw [<-a,<-c,t]
   exact Ok.mk ⟨by simp [this],u⟩
theorem Jr {D:Nat->Prop} (j:Row f_ 96 b D d a H):
  Calls Tryz.prog 46 #[.slice d a c] b (Ok λo k=>o= .bool (decide ((∃f∈H,100<f.aN.length)\/200<H.length))/\b=k):=by
 have x:=j.len;have p:=j.dt;unfold aI at p;refine Ee ⟨λm i k=>∃g:Nat,i=g/\g<=a/\m=a-g/\(∀f∈H.take g,¬100<f.aN.length)/\b=k,⟨_,0,rfl,Qj _,rfl,sM,rfl⟩,?_⟩;rintro m i _ y ⟨g,rfl,z,rfl,l,rfl⟩;refine al.dec (λq=>?_) (λq=>?_)
 ·obtain⟨r,s,t,A,rfl,_,_,n,u,B,C,E,rfl,v,F⟩:=j.vO (i:=g) oM
  have I:=v.len;refine⟨r,s,rfl,oM,oM,_,_,_,u 3 dC,al.dec (λw=>?_) (λw=>?_)⟩
  ·exact Ok.mk ⟨by rw [decide_eq_true (.inl ⟨t,QZ n,oM⟩)],rfl⟩
  ·refine⟨_,oM,g+1,aq oM,oM,rfl,λf e=>?_,rfl⟩
   rw [Qw,n]at e;rcases Q6.1 e with e|e
   ·exact l f e
   ·simp at e;subst e;omega
 ·rw [Qz oM]at l
  refine Ok.mk ⟨?_,rfl⟩
  congr 1
  refine decide_eq_decide.2 ⟨λh=>.inr oM,λh=>h.elim (λ⟨f,e,h⟩=>absurd h (l f e)) λh=>oM⟩
end Go.Proofs.YthnilpgpacdmnaaGreatDoor
namespace Go.au
open Go.ChangeShapes Go.WideShapes Go.ChangeAt Go.RowKit
set_option linter.unusedVariables false
def iF {a:Type} (b:Program) (c:TypeId) (d:DataW a):Prop:=∀e∈d.weights b c,e<=reachBytes
abbrev In (a:World):Nat->Prop:=λb=>b<a.heap.size
variable{e:Int}{a c:Nat}{j:Type}{g q:TypeId}{v:Value}
section
variable {H:Type} {enc:TypeId×Value->H} {P:Program} {w:World} {base:Nat} {held:Bool}
theorem Ag {a:List TypeId} {b:List (DataW H)} (d:(DataW.weightsEach P a b).all (·<=reachBytes)=true) {j:Nat} {c:DataW H} (e:a[j]? =some g) (f:b[j]? =some c):iF P g c:=
 λh i=>by simpa using List.all_eq_true.1 d _ (DataW.weights_mem_each e f h i)
theorem pB {c:TypeId}:∀{a:List (DataW H)} {d:DataW H},d∈a->∀b∈d.weights P c,b∈DataW.weightsAll P c a
 |x::a,d,h,b,e=>by
  simp only [DataW.weightsAll,Q6];rcases Q2.1 h with rfl|h
  ·exact Or.inl e
  ·exact Or.inr (pB h b e)
def Reads {d:Type} (P:Program) (e:jk d) (b:TypeId):Prop:=
 ∀(H:Type) (enc:TypeId×Value->H) (w:World) (held:Bool) (a:Nat) (cs:List Value) (c:DataW H×List MemPlace),DataW.trod enc P w 0 (λ_=>true) held a b cs=some c->iF P b c.1->∃f,e.rep w (In w) f cs
theorem jP {d:Option _} (b:w.cell? ⟨a,c,d⟩=some v):a<w.heap.size:=by
 unfold World.cell? at b
 by_cases e:a<w.heap.size
 ·exact e
 ·rw [show w.heap[a]? =none by simp;omega]at b;cases b
theorem open_row {k:jk j} {bytes v:Nat} {cs:List Value} {B:DataW H×List MemPlace} (I:P.underlying g=some (.slice q)) (Q:P.cellsOf q=k.k) (J:0<k.k) (R:P.bytesOf q=bytes) (S:Reads P k q)
  (o:DataW.trod enc P w 0 (λ_=>true) held v g cs=some B) (T:iF P g B.1):
  ∃b p f U,cs=[.slice b p f]/\p<=f/\(b=none->p=0/\f=0)/\Row k bytes w (In w) b p U:=by
 rcases DataW.trod_slice I o with⟨rfl,rfl⟩|⟨b,c,f,a,h,p,_,rfl,rfl,hb,V,hm,a4,W,a5,a6⟩
 ·exact⟨none,0,0,[],rfl,Q4 _,λ_=>⟨rfl,rfl⟩,Row.nil _ _⟩
 ·have x:∀l∈(a.length+h.length)*P.bytesOf q::(DataW.weightsAll P q (a.map (·.1))++DataW.weightsAll P q (h.map (·.1))),l<=reachBytes:=by
   have:=T;simpa only [iF,DataW.weights,I,Q8]using this
  have read:∀e,e<c->∃d l,a[e]? =some l/\d.length=k.k/\(∀i,i<k.k->w.cell? (b.add (e*k.k+i))=d[i]?)/\DataW.trod enc P w 0 (λ_=>true) held p q d=some l:=by
   intro e n;have K:=W e n;rw [Q,Qq (by omega:e<a.length)]at K;obtain⟨d,A,y⟩:=Option.bind_eq_some_iff.1 K;obtain⟨_,C,s⟩:=World.cells?_some A;exact⟨d,_,Qq oM,C,λi E=>by rw [<-Addr.add_add];exact s i E,y⟩
  have X:0<c->b.spot=none:=by
   intro Y;obtain⟨d,l,_,C,s,_⟩:=read 0 Y;have:=s 0 J;rw [Nat.zero_mul,Nat.add_zero,Qq oM]at this;have q:b.add 0=b:=by simp [Addr.add]
   rw [q]at this;unfold World.cell? at this;split at this
   ·cases t:b.spot with
    |none=>rfl
    |some L=>rw [t]at this;simp at this
   ·cases this
  have one:∀e,e<c->∃r,∃u z M,some b=some ⟨u,z,none⟩/\u<w.heap.size/\In w u/\(∀i,i<k.k->w.cell? ⟨u,z+e*k.k+i,none⟩=M[i]?)/\k.rep w (In w) r M:=by
   intro e n;have t:=X oM;have N:∀F,b.add F=⟨b.block,b.off+F,none⟩:=by
    intro F;obtain⟨u,Z,L⟩:=b;simp only at t;subst t;unfold Addr.add;split
    ·next o=>subst o;rfl
    ·rfl
   obtain⟨d,l,y,C,s,h5⟩:=read e n;have a0:iF P q l.1:=λr m=>x r (QJ _ (List.mem_append_left _ (pB (d:=l.1) (Xk.2 ⟨l,QZ y,rfl⟩) r m)));obtain⟨r,m⟩:=S H enc w held p d l h5 a0;have O:b.block<w.heap.size:=by
    have:=s 0 J;rw [N,Qq oM]at this;exact jP this
   refine⟨r,b.block,b.off,d,?_,O,O,λi E=>?_,m⟩
   ·obtain⟨u,Z,L⟩:=b
    simp only at t;rw [t]
   ·have:=s i E
    rw [N]at this;rw [<-this,Nat.add_assoc]
  have a1:c*bytes<=aI:=by
   have A:=x _ (QV ..);have y:c*P.bytesOf q<=(a.length+h.length)*P.bytesOf q:=Q0 _ oM;rw [R]at A y;unfold reachBytes at A;unfold aI;omega
  by_cases m:c=0
  ·subst m
   exact⟨some b,0,f,[],rfl,Qj _,λo=>(by cases o),rfl,sM,λe B n=>(by simp at n)⟩
  ·have a2:Nonempty j:=⟨(one 0 oM).choose⟩
   haveI:Inhabited j:=⟨Classical.choice a2⟩
   obtain⟨a3,hf⟩:=Go.Deep.choose_lt one;refine⟨some b,c,f,(List.range c).map a3,rfl,V,λo=>(by cases o),sM,a1,λe r m=>?_⟩
   by_cases n:e<c
   ·rw [Q9,List.getElem?_range n]at m
    cases m
    exact hf e n
   ·rw [Q7 (by simp;omega)]at m;cases m
theorem aJ (a:(Lit.int .i64 e).wf=true):aK e:=by
 have:IntKind.i64.min<=e/\e<=IntKind.i64.max:=by simpa [Lit.wf]using a
 exact this
theorem CL (b:P.underlying g=some (.int .i64)):Reads P aG g:=λH enc w held a cs f c h=>by
 obtain⟨d,rfl,-,e⟩:=DataW.trod_int b c;exact⟨d,rfl,aJ e⟩
end
section
variable {H:Type} {enc:TypeId×Value->H} {P:Program} {w:World} {held:Bool} {r:Reach} {b0:Nat} {v:Value} {d:DataW H} {ps:List MemPlace}
theorem Sq (b:P.underlying g=some (.int .i64)) (c:Value.okWide P w r b0 g v) (e:DataW.Trod enc P w 0 (λ_=>true) held g v d ps):∃a,v= .int .i64 a/\aK a:=by
 obtain⟨a,rfl,-,-,f⟩:=open_int b c e;exact⟨a,rfl,aJ f⟩
theorem Sr {b:jk j} {bytes:Nat} (h:P.underlying g=some (.slice q)) (l:P.cellsOf q=b.k) (m:0<b.k) (n:P.bytesOf q=bytes) (o:Reads P b q) (p:Value.okWide P w r b0 g v) (s:DataW.Trod enc P w 0 (λ_=>true) held g v d ps) (t:iF P g d):
  ∃e c a f,v= .slice e c a/\c<=a/\(e=none->c=0/\a=0)/\Row b bytes w (In w) e c f:=by
 obtain⟨e,c,b,rfl⟩:=okWide_slice h p;obtain⟨i,u⟩:=s;obtain⟨y,z,A,f,k,x⟩:=open_row h l m n o u t;simp only [Value.cells]at k
 cases k
 exact⟨_,_,_,f,rfl,x⟩
end
variable{r:Array Value}{a5:Func}{g1:List MemPlace}{b k:World}
theorem ai.below (a:ai b k):Below b.heap.size b k:=⟨a.os,a.tape,a.output,a.size,λc d=>a.block c d id⟩
section
variable {H:Type} {enc:TypeId×Value->H} {P:Program}
theorem uf (j:laidOutB P=true) {f k:World} (l:ai f k) {m:Nat->Bool}:∀{c:List TypeId} {n:List Value} {o:List (DataW H)} {d:List MemPlace},c.all (λg=>P.readableRec g&&decide (g<P.types.size))=true->(∀a∈d,a.block<f.heap.size)->(∀a∈d,m a.block=true)->
  DataW.TrodAll enc P f 0 (λ_=>true) true c n o d->DataW.TrodAll enc P k 0 m true c n o d
 |[],_,_,_,_,_,_,b=>by
  obtain⟨rfl,rfl,rfl⟩:=trodAll_nil b;exact trodAll_mk0
 |g::c,_,_,_,e,p,q,b=>by
  obtain⟨t,u,v,w,x,y,rfl,rfl,rfl,r,s⟩:=trodAll_cons b;simp only [List.all_cons,QK,decide_eq_true_eq]at e;refine trodAll_cons_mk (WideElems.Trod_stays j e.1.1 e.1.2 r (λh i=>l.below.same (p h (List.mem_append_left _ i))) λh i=>q h (List.mem_append_left _ i)) (uf j l (by simpa using e.2) (λa b=>p a (List.mem_append_right _ b)) (λa b=>q a (List.mem_append_right _ b)) s)
theorem L_ {d:ChangeSpec} {f n:List (DataW H)} {tb:TypeId} {a i E j:Bool}
  (F:laidOutB P=true) (u:a5.resultTypes= #[tb]) (v:P.underlying tb=some .bool) (w:d.vars=[]) (I:(d.fn H (f++n)).results=[.lit (.bool true)]) (J:(d.fn H (f++n)).args=f) (K:(d.fn H (f++n)).vars=[])
  (L:a5.params.toList.all (λx=>P.readableRec x&&decide (x<P.types.size))=true)
  (o:DataW.Whole enc P a5.params.toList d.vars a b r.toList f n g1) (p:ai b k):d.post enc P a5 a i E j b r (.bool true) k:=by
 have M:=o;have q:=λc e=>o.lt c e;obtain⟨c,V,N,y,O,Q,R⟩:=o;rw [w]at y;obtain⟨rfl,rfl⟩:=trodVars_none y;obtain rfl:g1=c:=by simpa using O
 have z:∀g:Nat->Bool,(∀c∈g1,g c.block=true)->DataW.TrodAll enc P k 0 g true a5.params.toList r.toList (d.fn H (f++[])).args g1:=λg S=>by
  rw [J];exact uf F p L (λs t=>by simpa using q s t) (λs t=>S s t) N
 have A:∀(h:Nat) (g:Nat->Bool) (B:Bool),DataW.TrodAll enc P k h g B a5.resultTypes.toList ((Value.bool true).resultList a5.resultTypes.size) (d.fn H (f++[])).results []:=λh g B=>by
  rw [u,I];exact trodAll_cons_mk (shut_bool v _) trodAll_mk0
 have C:∀g:Nat->Bool,DataW.TrodVars enc P k g d.vars (d.fn H (f++[])).vars []:=λg=>by rw [K,w];exact rfl
 have T:∀c∈g1,(λh=>decide (h<b.heap.size)) c.block=true:=λc e=>by simpa using q c e
 refine⟨f,[],g1,[],g1,[],M,A _ _ _,z _ T,C _,World.keptBut_mono (λc e=>⟨e,Or.inr (by simpa using e)⟩) (p.below.frame (·∈g1)),λ_=>?_⟩;refine⟨ok_one u rfl (okWide_bool_mk v _),_,_,([]++g1)++[],⟨[]++g1,[],trodAll_append (z _ (λ_ _=>rfl)) (A _ _ _),C _,rfl,?_,?_⟩,?_⟩
 ·intro h l e
  have m:MemPlace.cell h l∈g1:=by simpa using e
  rw [p.below.frozen (p:=⟨h,l,none⟩) (q _ m)];exact Q h l (by simpa using m)
 ·intro U
  simpa using R U
 ·intro c e _
  simpa using e
end
end Go.au
namespace Go.Proofs.YthnilpgpacdmnaaGreatDoor
open Go.au
set_option linter.unusedVariables false
set_option maxRecDepth 20000
def aS (c b:World) (f:Nat) (D:an) (d:Nat->Prop):Prop:=∃e,aP b f e D/\ai c b/\(∀a,e a->c.heap.size<=a/\¬d a)/\∀a,d a->a<b.heap.size
abbrev no:Nat->Prop:=λ_=>False
abbrev dv (a:Nat->Prop):Nat->Prop:=λb=>¬a b
variable{r:Array Value}{z:FuncId}{e:Int}{d6:Int×an}{x:List UInt8}{a c:Nat}{f:Nat->Prop}{d:Option Addr}
section
variable {w0 w w1 w':World} {p:Nat} {D D':an} {X Y:Nat->Prop}
theorem aS.gr (a:aS w0 w p D X):ai w0 w:=by obtain⟨c,d,b,e,f⟩:=a;exact b
theorem aS.ok (a:aS w0 w p D X):D.Ok:=by obtain⟨c,b,d,e,f⟩:=a;exact b.ok
theorem aS.ah (b:aS w0 w p D X) (a:ai w w'):aS w0 w' p D X:=by
 obtain⟨c,d,e,f,g⟩:=b;exact⟨c,d.ah a,e.ah a,f,λh i=>Qk (g h i) a.size⟩
theorem aS.mono (e:aS w0 w p D X) (c:∀a,Y a->X a):aS w0 w p D Y:=by
 obtain⟨f,g,h,d,i⟩:=e;exact⟨f,g,h,λa b=>⟨(d a b).1,λj=>(d a b).2 (c a j)⟩,λa b=>i a (c a b)⟩
theorem aS.add (b:aS w0 w p D X) (d:ai w w') (e:∀a,Y a->w.heap.size<=a/\a<w'.heap.size):aS w0 w' p D (λa=>X a\/Y a):=by
 obtain⟨h,f,i,g,j⟩:=b;exact⟨h,f.ah d,i.ah d,λa c=>⟨(g a c).1,λk=>k.elim (g a c).2 λl=>by have:=f.aC a c;have:=(e a l).1;omega⟩,λa c=>c.elim (λb=>Qk (j a b) d.size) λb=>(e a b).2⟩
theorem aS.of (c:ai w0 w) (d:ai w w') (h:aP w' p f D) (e:∀a,f a->w.heap.size<=a) (g:∀a,X a->a<w.heap.size):aS w0 w' p D X:=
 ⟨f,h,c.ah d,λa b=>⟨Xx c.size (e a b),λi=>by have:=e a b;have:=g a i;omega⟩,λa b=>Qk (g a b) d.size⟩
def lX (w0 w:World) (p:Nat) (X:Nat->Prop) (a:Int×an) (b:Value) (w':World):Prop:=b= .int .i64 a.1/\aS w0 w' p a.2 X/\ak (dv X) w w'
theorem aS.TI (g:aS w0 w p D X) (f:ai w w1)
  (k:∀c,aP w1 p c D->(∀a,c a->w0.heap.size<=a/\a<w.heap.size/\¬X a)->Calls Tryz.prog z r w1 (Ok (tX w1 p c d6))):Calls Tryz.prog z r w1 (Ok (lX w0 w1 p X d6)):=by
 obtain⟨c,h,i,d,j⟩:=g;refine Calls.ok (k c (h.ah f) λa b=>⟨(d a b).1,h.aC a b,(d a b).2⟩) ?_;rintro q w' ⟨l,m,n,e⟩;have:=f.size;have:=i.size;have:=e.af.size;exact⟨m,⟨l,n,(i.ah f).new e.af λa b=>.inr (d a b).1,λa b=>(e.new a b).elim (d a) λg=>⟨oM,λo=>by have:=j a o;omega⟩,λa b=>by have:=j a b;omega⟩,e.af.mono λa _ b=>(d a b).2⟩
theorem aS.call (c:aS w0 w p D X)
  (d:∀b,aP w p b D->(∀a,b a->w0.heap.size<=a/\a<w.heap.size/\¬X a)->Calls Tryz.prog z r w (Ok (tX w p b d6))):Calls Tryz.prog z r w (Ok (lX w0 w p X d6)):=c.TI (ak.refl w) d
theorem aS.append {h:ByteArray} (e:aS w0 w p D X) (g:Row fg 1 w f d a x) (l:d=none->a=0/\c=0) (i:∀b,f b->b<w0.heap.size\/X b):
  Calls Tryz.prog 152 #[.pointer (some ⟨p,0,none⟩),.string h,.slice d a c] w (Ok (lX w0 w p X (D.append h x))):=by
 have r:=e.gr.size;have m:∀b,X b->b<w.heap.size:=by obtain⟨n,s,t,u,o⟩:=e;exact o
 exact e.call λn q j=>wM q g l λb g=>⟨(i b g).elim (λe=>oM) (m b),λk=>(i b g).elim (λe=>by have:=(j b k).1;omega) (j b k).2.2⟩
theorem aS.create {a:ByteArray} (b:aS w0 w p D X):Calls Tryz.prog 174 #[.pointer (some ⟨p,0,none⟩),.string a] w (Ok (lX w0 w p X (D.create a))):=b.call λd c _=>wL c
theorem aS.sync {a:ByteArray} (b:aS w0 w p D X):Calls Tryz.prog 154 #[.pointer (some ⟨p,0,none⟩),.string a] w (Ok (lX w0 w p X (D.sync a))):=b.call λd c _=>CI c
theorem aS.GJ {k:ByteArray} (a:aS w0 w p D X):Calls Tryz.prog 173 #[.pointer (some ⟨p,0,none⟩),.string k,.int .i64 e] w (Ok (lX w0 w p X (D.GJ k e))):=a.call λc b _=>NN b
theorem aS.delete {a:ByteArray} (b:aS w0 w p D X):Calls Tryz.prog 135 #[.pointer (some ⟨p,0,none⟩),.string a] w (Ok (lX w0 w p X (D.delete a))):=b.call λd c _=>wK c
theorem aS.read {k:ByteArray} (m:aS w0 w p D X):Calls Tryz.prog 166 #[.pointer (some ⟨p,0,none⟩),.string k] w (Ok λf w'=>∃c d e b,f= .tuple #[.slice c d e,.int .i64 (D.read k).2]/\aO fg 5 b w' c d e (D.read k).1/\(∀a,b a->w.heap.size<=a)/\aS w0 w' p D (λa=>X a\/b a)/\ai w w'):=by
 obtain⟨b,g,n⟩:=m;refine Calls.ok (vV g) ?_;rintro f w' ⟨o,rfl,c,d,e,G,rfl,h,i,j⟩;exact⟨c,d,e,G,rfl,h,j,aS.add ⟨b,g,n⟩ i λa l=>⟨j a l,h.aC a l⟩,i⟩
theorem aS.list (l:aS w0 w p D X):Calls Tryz.prog 164 #[.pointer (some ⟨p,0,none⟩)] w (Ok λf w'=>∃c d e b,f= .slice c d e/\aO LR 9 b w' c d e D.list/\(∀a,b a->w.heap.size<=a)/\aS w0 w' p D (λa=>X a\/b a)/\ai w w'):=by
 obtain⟨b,g,m⟩:=l;refine Calls.ok (vW g) ?_;rintro f w' ⟨c,d,e,G,rfl,h,i,j⟩;exact⟨c,d,e,G,rfl,h,j,aS.add ⟨b,g,m⟩ i λa k=>⟨j a k,h.aC a k⟩,i⟩
end
def Sw (a:Nat):an:=⟨a,[],false,0,false⟩
variable{t:Ending->World->Prop}{u:List Int}{b k:World}
theorem rV (i:ai b k) (n:64<=e) (o:e<=262144):Calls Tryz.prog 23 #[.int .i64 e] k (Ok λd c=>∃a,d= .tuple #[.pointer (some ⟨a,0,none⟩),.int .i64 0]/\aS b c a (Sw e.toNat) (λf=>f<k.heap.size)/\ai k c):=by
 refine Calls.ok LU ?_;intro d c g;rw [if_neg oM]at g;obtain⟨a,p,rfl,j,h,l⟩:=g;exact⟨a,rfl,aS.of i h j l λf m=>m,h⟩
theorem G_ {D:an} (a:D.Ok) (b:ByteArray):(D.read b).1.length<=262144:=by
 unfold an.read;split
 ·simp
 ·split
  ·simp
  ·rename_i d c;exact a.len (bQ c)
def nA:ByteArray:=⟨#[97]⟩
open Go.au Go.ChangeShapes Go.WideShapes Go.ChangeAt Go.RowKit
section
variable {w0 w w1 w':World} {p:Nat} {D D':an} {X Y:Nat->Prop}
theorem aS.bZ (e:aS w0 w p D X) (i:oR w0) (l:Row aG 8 w f d a u) (m:∀n∈u,aK n) (j:∀b,f b->b<w0.heap.size\/X b):
  Calls Tryz.prog 113 #[.pointer (some ⟨p,0,none⟩),.agg #[.slice d a c]] w (Ok (lX w0 w p X (bZ D u))):=by
 have t:=e.gr.size;have o:∀b,X b->b<w.heap.size:=by obtain⟨q,v,x,y,r⟩:=e;exact r
 have z:=i.lt;exact e.call λq s h=>AN (i.ah e.gr) s l m (λb g=>⟨(j b g).elim (λe=>oM) (o b),λk=>(j b g).elim (λe=>by have:=(h b k).1;omega) (h b k).2.2⟩) λb g=>by have:=(h b g).1;omega
theorem aS.iW (e:aS w0 w p D X) (l:oR w0):Calls Tryz.prog 110 #[.pointer (some ⟨p,0,none⟩)] w (Ok λf w'=>∃b c d G,f= .tuple #[.agg #[.slice b c d],.bool (eK D).isSome]/\aO aG 3 G w' b c d ((eK D).getD [])/\
  (∀a,G a->w.heap.size<=a)/\aS w0 w' p D (λa=>X a\/G a)/\ai w w'):=by
 have m:=e.gr;obtain⟨n,g,o⟩:=e;refine Calls.ok (Cj (l.ah m) g) ?_;rintro f w' ⟨b,c,d,G,rfl,h,i,j⟩;exact⟨b,c,d,G,rfl,h,j,aS.add ⟨n,g,o⟩ i λa k=>⟨j a k,h.aC a k⟩,i⟩
end
theorem KS {D:Nat->Prop} {c bytes:Nat} (e:Row aG bytes b D d c u):∀a∈u,aK a:=λa f=>by
 obtain⟨g,h⟩:=List.mem_iff_getElem?.1 f;obtain⟨k,i,l,-,-,-,-,j⟩:=e.el g a h;exact j.2
theorem CB {D:an}:((eK D).getD []).length<=64:=by
 unfold eK;split
 ·simp
 ·cases a:iW (D.read rF).1 with
  |none=>simp
  |some b=>exact(Mu a).2
theorem tn:(kr==rF)=false:=by decide+kernel
set_option maxRecDepth 100000
def xW:fq:=⟨[(6,[(8,.slice none 0 0),(9,.int .i64 0)])],[],[],[],[]⟩
theorem xX (a0:PC_ 140 #[.ii e] b (λa3 a4=>∃p,a3= .string p/\PC_ 166 #[.pointer d,.string p] a4 (λa5 q=>∃r m n s,a5= .tuple #[.slice r m n,.ii s]/\al (s !=0) (rt t ((.tuple #[.slice none 0 0,.ii 0])) q) ((∃o:Nat->Option Addr->Nat->Nat->Int->World->Prop,(∃l,o l none 0 0 0 q)/\∀(l:Nat) (g:Option Addr) (h:Nat) (i:Nat) (f:Int) (c9:Nat->Value) (u:World),o l g h i f u->((0:Int)<=f/\(f:Int)<=(m:Int)/\PC_ 167 #[.slice (b_ r (Int.toNat f) n 1) (m-Int.toNat f) (n-Int.toNat f)] u (λa6 j=>∃v w x y z A,a6= .tuple #[.agg #[.ii v,.slice w x y],.ii z,.ii A]/\PA j (.cells #[.ii 0,.slice none 0 0] 280) λa7=>PS a7 (ab_ j 0) (.ii v) λa8=>PS a8 (ab_ j (0+1)) (.slice w x y) λk=>al (A !=0) (rt t ((.tuple #[.slice g h i,.ii f])) k) ((rI k (ab_ j 0) λa9=>al (a9 !=1) (rt t ((.tuple #[.slice g h i,.ii f])) k) ((rS k (ab_ j (0+1)) λb0 b1 b2=>PC_ 235 #[.slice b0 b1 b2] k (λb3 a=>∃B C D E F G H I J K L M N,b3= .tuple #[.agg #[.ii B,.ii C,.ii D,.slice E F G,.ii H,.ii I,.ii J,.ii K,.ii L,.ii M],.ii N]/\PA a (.cells #[.ii 0,.ii 0,.ii 0,.slice none 0 0,.ii 0,.ii 0,.ii 0,.ii 0,.ii 0,.ii 0] 60) λb4=>PS b4 (ab_ a 0) (.ii B) λb5=>PS b5 (ab_ a (0+1)) (.ii C) λb6=>PS b6 (ab_ a (0+2)) (.ii D) λb7=>PS b7 (ab_ a (0+3)) (.slice E F G) λb8=>PS b8 (ab_ a (0+4)) (.ii H) λb9=>PS b9 (ab_ a (0+5)) (.ii I) λc0=>PS c0 (ab_ a (0+6)) (.ii J) λc1=>PS c1 (ab_ a (0+7)) (.ii K) λc2=>PS c2 (ab_ a (0+8)) (.ii L) λc3=>PS c3 (ab_ a (0+9)) (.ii M) λc=>al (N !=0) (rt t ((.tuple #[.slice g h i,.ii f])) c) ((∃O P Q R S T U V W X Y Z,c.cell? (ab_ a 0)=some (.ii O)/\c.cell? (ab_ a (0+1))=some (.ii P)/\c.cell? (ab_ a (0+2))=some (.ii Q)/\c.cell? (ab_ a (0+3))=some (.slice R S T)/\c.cell? (ab_ a (0+4))=some (.ii U)/\c.cell? (ab_ a (0+5))=some (.ii V)/\c.cell? (ab_ a (0+6))=some (.ii W)/\c.cell? (ab_ a (0+7))=some (.ii X)/\c.cell? (ab_ a (0+8))=some (.ii Y)/\c.cell? (ab_ a (0+9))=some (.ii Z)/\PA c (.cells #[.ii O,.ii P,.ii Q,.slice R S T,.ii U,.ii V,.ii W,.ii X,.ii Y,.ii Z] 60) λc4=>PR_ (ap_ 40 (.slice g h i) (.slice (some (ab_ c 0)) 1 1)) c4 (kS_ λc5 c6 c7 c8=>(∃a2,a2<l/\o a2 c5 c6 c7 (IntKind.wrap .i64 (f+z)) c8)) (pV t)))) (pE t)))))) (pE t))))) (pE t)) (pE t)):Calls Tryz.prog 172 #[.pointer d,.ii e] b t:=DC xW Tryz.func172 rfl a0
end Go.Proofs.YthnilpgpacdmnaaGreatDoor
namespace Go.au
open Go
variable{H:List aj}{m:aj}
theorem o_ (a:m.Ok) (b:m.aN.length<=64):fB m=(vP m,0):=by
 have e:=KR a b;have c:gZ m=(bJ (jN m),0):=by unfold gZ;rw [if_neg oM]
 have d:jq 1 (bJ (jN m))=(vP m,0):=by unfold jq vP;rw [if_neg dC,if_neg oM]
 unfold fB;rw [c];simp only;rw [d];simp
theorem wF (b:¬m.aN.length<=64):fB m=([],3):=by
 have a:gZ m=([],3):=by unfold gZ;rw [if_pos oM]
 unfold fB;rw [a];simp
def ends (a:List aj):List Int:=(List.range a.length).map λb=>((dm (a.take (b+1))).length:Int)
theorem NI (b:∀a∈H,a.Ok/\a.aN.length<=64):(dm H).length<=675*H.length:=by
 induction H with
 |nil=>simp [dm]
 |cons a H c=>
  rw [Kb,QX,Xq];have f:=HV (b a (QV ..)).1 (b a (QV ..)).2;have g:=c λd e=>b d (QJ _ e);omega
end Go.au
namespace Go.Proofs.YthnilpgpacdmnaaGreatDoor
open Go.au
end Go.Proofs.YthnilpgpacdmnaaGreatDoor
namespace Go.au
open Go
end Go.au
namespace Go.Proofs.YthnilpgpacdmnaaGreatDoor
open Go.au
set_option linter.unusedVariables false
set_option maxRecDepth 20000
variable{H:List aj}{a c:Nat}{f:Nat->Prop}{d:Option Addr}{j:Type}{b:World}{m:aj}
theorem CC {D:Nat->Prop} (s:Laid b) (t:Row aG 8 b D d a m.aN) (k:m.Ok) (u:∀f,D f->f<b.heap.size):
  Calls Tryz.prog 151 #[.agg (aB m d a c).toArray] b (Ok λv l=>∃n o p q,v= .tuple #[.slice n o p,.int .i64 (fB m).2]/\aO fg 5 q l n o p (fB m).1/\ai b l/\∀f,q f->b.heap.size<=f):=by
 refine xN (PA.mk λE g F e=>?_);refine⟨_,_,_,_,_,_,_,_,_,_,_,_,ae e rfl,ae e rfl,ae e rfl,ae e rfl,ae e rfl,ae e rfl,ae e rfl,ae e rfl,ae e rfl,ae e rfl,
  PC.ok (LX (t.ah g) k λf j=>Qk (u f j) g.size) ?_⟩
 rintro _ w ⟨_,rfl,H,I,J,K,rfl,r,h,L⟩;refine⟨_,_,_,_,rfl,al.df (λx=>?_) (λy=>?_)⟩
 ·rw [show fB m=([],(gZ m).2) by unfold fB;rw [if_pos x]]
  exact Ok.mk ⟨none,0,0,λ_=>False,rfl,aO.nil w,g.then h,λ_ i=>i.elim⟩
 rw [show fB m=jq 1 (gZ m).1 by unfold fB;rw [if_neg (by simpa using y)]];have M:(gZ m).1.length<=666:=by
  by_cases i:64<m.aN.length
  ·simp [gZ,i]
  ·have:=KR k oM
   simpa [gZ,i]using this
 refine PC.ok (CP (s.ah (g.then h)).mN (r.row (bytes:=1) dC (by unfold aI;omega)) r.aC) ?_;rintro _ N ⟨_,rfl,O,P,Q,z,rfl,A,B,C⟩;refine⟨_,_,_,_,rfl,Ok.mk ⟨_,_,_,z,rfl,A,(g.then h).then B,λf j=>?_⟩⟩;have:=C f j;have:=(g.then h).size;omega
theorem OY {b:List j} (d:b.length=a) (c:Nat):(b.take a).drop c=b.drop c:=by rw [Qz oM]
theorem OG {D:an} {no:Int} (P:Laid b) (Q:aP b a f D) (hn:aK no):
  Calls Tryz.prog 172 #[.pointer (some ⟨a,0,none⟩),.int .i64 no] b (Ok λC g=>∃p q r G,C= .tuple #[.slice p q r,.int .i64 ((bO (D.read (cx (aA no))).1).2:Int)]/\
   aO pw 60 G g p q r (bO (D.read (cx (aA no))).1).1/\ai b g/\(∀d,G d->b.heap.size<=d)/\(bO (D.read (cx (aA no))).1).1.length<=262144):=by
 refine xX (PC.ok (iE P hn) ?_);rintro _ w1 ⟨rfl,v⟩;refine⟨_,rfl,PC.ok (vV (Q.ah v)) ?_⟩;rintro _ s ⟨_,rfl,a4,R,c2,F2,rfl,n,E,c3⟩;have S:=G_ Q.ok (cx (aA no));have F:(D.read (cx (aA no))).2≠0->(D.read (cx (aA no))).1=[]:=by
  unfold an.read;split
  ·intro _;rfl
  ·split
   ·intro _;rfl
   ·intro h;exact absurd rfl h
 generalize D.read (cx (aA no))=rd at n S F;obtain⟨e,er⟩:=rd;simp only at n S F⊢;refine⟨_,_,_,_,rfl,al.df (λm=>?_) (λhe=>?_)⟩
 ·rw [F m,HT]
  exact Ok.mk ⟨none,0,0,λ_=>False,rfl,aO.nil s,v.then E,λ_ h=>h.elim,sM⟩
 have b2:=n.len dC;have b3:=n.jD;have a9:Row fg 1 s F2 a4 R e:=n.row dC (by unfold aI;omega);refine⟨λT w y z H g=>∃(c:Nat) (j:List aj) (G:Nat->Prop),H=c/\c<=e.length/\T=e.length-c/\bO e=(j++(bO (e.drop c)).1,c+(bO (e.drop c)).2)/\j.length<=c/\
  aO pw 60 G g w y z j/\ai s g/\∀d,G d->s.heap.size<=d,⟨_,0,[],λ_=>False,rfl,Qj _,rfl,sM,sM,aO.nil s,ak.refl _,λ_ h=>h.elim⟩,?_⟩
 rintro T w y z _ _ U ⟨c,j,G,rfl,c5,rfl,V,c6,t,o,I⟩;refine⟨oM,oM,?_⟩;have W:ai b U:=(v.then E).then o;have X:=(a9.ah o).part (lo:=c) (hi:=R) (cap:=c2) oM (Q4 _) b3;rw [OY b2.symm]at X;rw [Qx];refine PC.ok (CQ (P.ah W).mN X oM λd i=>by have:=n.aC d i;have:=o.size;omega) ?_;rintro _ J ⟨b0,n4,c4,F4,rfl,b4,A,c8⟩;have k:¬((bk (e.drop c)).no=0/\(bk (e.drop c)).kind=1/\(iG (bk (e.drop c)).body).2=0)->∀g,ai J g->
   Ok (λC g=>∃p q r G,C= .tuple #[.slice p q r,.int .i64 ((bO e).2:Int)]/\aO pw 60 G g p q r (bO e).1/\ai b g/\(∀d,G d->b.heap.size<=d)/\(bO e).1.length<=262144) (.returned (.tuple #[.slice w y z,.int .i64 (c:Int)])) g:=by
  intro h g Y;rw [V,Bd h];refine Ok.mk ⟨w,y,z,G,sM,by simpa using(t.ah A).ah Y,(W.then A).then Y,λd i=>?_,by simp;omega⟩;have:=I d i;have:=(v.then E).size;omega
 refine⟨_,_,_,_,_,_,rfl,PA.mk λw5 k5 s5 g5=>?_⟩;refine storeAll [.int .i64 (bk (e.drop c)).kind,.slice b0 n4 c4] g5 rfl λK k6 s6 Z=>?_;have u:ai J K:=k5.new k6 λd i=>.inr oM;refine al.df (λm=>k (λh=>m h.1) K u) (λa0=>?_);refine⟨_,ae Z rfl,al.df (λm=>k (λh=>m h.2.1) K u) (λb1=>?_)⟩;obtain⟨b5,h9,c9⟩:=ue a0;rw [XZ]at b5;have a1:=b4.ah u;refine⟨_,_,_,ae Z rfl,PC.ok (LY (a1.row (bytes:=1) dC (by unfold aI;omega)) a1.aC) ?_⟩;rintro _ w7 ⟨a7,n7,c7,F7,rfl,L,k7,a3⟩;obtain⟨M,a5⟩:=OZ (bk (e.drop c)).body;generalize N:iG (bk (e.drop c)).body=b6 at L M a5;obtain⟨x,xe⟩:=b6;simp only at L M a5;refine⟨_,_,_,_,_,_,_,_,_,_,_,_,_,rfl,PA.mk λw8 k8 s8 g8=>?_⟩;refine storeAll (aB x a7 n7 c7) g8 rfl λB k9 s9 l=>?_;have a6:ai w7 B:=k8.new k9 λd i=>.inr oM;have a8:ai J B:=(u.then k7).then a6;refine al.df (λm=>k (λh=>m (by have:=h.2.2;rw [N]at this;exact this)) B a8) (λb7=>?_);refine⟨_,_,_,_,_,_,_,_,_,_,_,_,ae l rfl,ae l rfl,ae l rfl,ae l rfl,ae l rfl,ae l rfl,ae l rfl,ae l rfl,ae l rfl,ae l rfl,?_⟩;have O:ai U B:=A.then a8;have b8:=t.ah O;have a2:=L.ah a6;have d0:=(A.then u).size;refine FT b8 FM (x:=x) (D:=F7) ⟨a7,n7,c7,F7,rfl,a2,λ_ h=>h,M,by unfold aI;omega⟩ (λd i=>⟨a2.aC d i,λhc=>?_⟩) (by unfold aI;omega) (by unfold maxLen;omega) λa' c' d1 F' b9 c0 c1 _=>?_
 ·have h1:=t.aC d (t.self d hc)
  have h2:=a3 d i;omega
 refine⟨_,_,_,rfl,_,?_,c+(bk (e.drop c)).n,j++[x],F',?_,oM,rfl,?_,by simp;omega,b9,?_,?_⟩
 ·omega
 ·rw [wrap_i64 (by unfold aK;omega)];omega
 ·rw [V,HU ⟨a0,b1,by rw [N];exact b7⟩,N,List.drop_drop]
  simp only [XQ,List.cons_append,List.nil_append,Nat.add_assoc]
 ·exact(o.then O).new c0 λd i=>.inr (I d (t.self d i))
 ·intro d i
  have hz:=(o.then O).size;have d2:=o.size;rcases c1 d i with h|h|h
  ·exact I d h
  ·have:=a3 d h;omega
  ·omega
theorem Cp {D:Nat->Prop} (y:Row aG 8 b D d a m.aN):
  Calls Tryz.prog 129 #[.agg (aB m d a c).toArray] b (Ok λz q=>∃r s t u,z= .agg (aB m r s t).toArray/\aO aG 3 u q r s t m.aN/\ai b q/\∀e,u e->b.heap.size<=e):=by
 refine xL (PA.mk λM A N v=>PA.mk λB i O C=>?_);have w:ai b B:=A.then i;refine⟨_,_,_,ae (i.get v id) rfl,PC.ok (ry (y.ah w)) ?_⟩;rintro _ P ⟨j,k,l,E,rfl,F,n,o⟩;have H:=n.get (i.get v id) id;have I:=n.get C id;refine⟨_,_,_,rfl,PS.mk H sM λJ p Q K=>?_⟩;have f:J.heap[b.heap.size]? =some (.cells (aB m j k l).toArray 60 (0,0)):=by rw [K];rfl
 have L:=p.get I oM;refine⟨_,_,_,_,_,_,_,_,_,_,_,_,ae f rfl,ae f rfl,ae f rfl,ae f rfl,ae f rfl,ae f rfl,ae f rfl,ae f rfl,ae f rfl,ae f rfl,?_⟩;refine storeAll (aB m j k l) L rfl λR x S g=>?_;refine⟨_,_,_,_,_,_,_,_,_,_,_,_,ae g rfl,ae g rfl,ae g rfl,ae g rfl,ae g rfl,ae g rfl,ae g rfl,ae g rfl,ae g rfl,ae g rfl,
  Ok.mk ⟨j,k,l,E,rfl,?_,?_,λe h=>by have:=o e h;omega⟩⟩
 ·exact(F.af p λe h m=>by have:=o e h;omega).af x λe h m=>by have:=o e h;omega
 ·exact((w.then n).new p λe h=>.inr oM).new x λe h=>.inr oM
theorem Ar {D:Nat->Prop} (n:Row f_ 96 b D d a H) (E:∀F∈H,F.aN.length<=100):
  Calls Tryz.prog 69 #[.slice d a c] b (Ok (oy pw 60 b H)):=by
 have T:=n.len;have I:=n.dt;unfold aI at I;refine vr ⟨λs t f u i v=>i=(f:Int)/\f<=a/\s=a-f/\∃m,aO pw 60 m v t f u (H.take f)/\ai b v/\∀e,m e->b.heap.size<=e,
  ⟨_,rfl,Qj _,rfl,λ_=>False,by simpa using aO.nil b,ak.refl _,λ_ h=>h.elim⟩,?_⟩
 rintro s t f u i _ U ⟨rfl,V,rfl,m,j,l,o⟩;refine al.dec (λw=>?_) (λw=>?_)
 ·obtain⟨e,p,x,W,rfl,_,_,y,q,X,Y,Z,rfl,J,K⟩:=(n.ah l).vO (i:=f) oM
  have z:(H.take f).length=f:=by simp;omega
  have g:=λi (L:i<10)=>q i L;refine⟨e,p,rfl,oM,oM,_,_,_,_,_,_,_,_,_,_,_,_,g 0 dC,g 1 dC,g 2 dC,g 3 dC,g 4 dC,g 5 dC,g 6 dC,g 7 dC,g 8 dC,g 9 dC,?_⟩;refine PC.ok (Cp J) ?_;rintro _ w2 ⟨M,N,O,A,rfl,B,r,C⟩;have a3:=E x (QZ y);refine⟨_,_,_,_,_,_,_,_,_,_,_,_,rfl,FT (j.ah r) FM (x:=x) (D:=A) ⟨M,N,O,A,rfl,B,λ_ h=>h,K,by unfold aI;omega⟩ (λe k=>⟨B.aC e k,λq=>?_⟩) (by rw [z];unfold aI;omega) (by rw [z];unfold maxLen;omega) λa' c' w3 P Q R S _=>?_⟩
  ·have w:=j.aC e (j.self e q);have h2:=C e k;omega
  refine⟨_,_,_,rfl,a-(f+1),oM,aq oM,oM,rfl,P,?_,(l.then r).new R λe k=>.inr (o e (j.self e k)),?_⟩
  ·rw [Qw,y];exact Q
  ·intro e k
   have:=l.size;have:=(l.then r).size;rcases S e k with h|h|h
   ·exact o e h
   ·have:=C e h;omega
   ·omega
 ·obtain rfl:f=a:=oM
  rw [Qz oM]at j;exact Ok.mk ⟨_,_,_,m,rfl,j,l,o⟩
end Go.Proofs.YthnilpgpacdmnaaGreatDoor

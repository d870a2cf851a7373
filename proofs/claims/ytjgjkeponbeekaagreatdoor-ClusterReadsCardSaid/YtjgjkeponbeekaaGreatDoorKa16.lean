import Derived.Test.YtjgjkeponbeekaaGreatDoorKa15
import Derived.Laws.StructEq
import Derived.Carry
import Derived.SizedLaws
import Derived.WalkKit
import Derived.ProofKit
import Derived.OpenShut
import Derived.Deep.DeepHandedRow
import Derived.Deep.Slices
set_option linter.all false
set_option maxHeartbeats 4000000
set_option maxRecDepth 100000
namespace Go.Proofs.YtjgjkeponbeekaaGreatDoor
open Go.ar
def k_:ByteArray:=⟨#[109,97,110,105,102,101,115,116,46,116,109,112]⟩
def vh:ByteArray:=⟨#[109,97,110,105,102,101,115,116]⟩
def ob(D:an):Int×an:=if(aE D.files k_).isSome then D.delete k_ else(0,D)
def sv(a:List Int):Nat->an->Int×an
 |0,D=>ob D
 |1,D=>D.create k_
 |2,D=>D.append k_ (vi a)
 |3,D=>D.sync k_
 |_,D=>D.rename k_ vh
def wW(a:List Int):Nat->Nat->an->Int×an
 |_,0,D=>(0,D)
 |b,c+1,D=>if(sv a b D).1≠0 then((sv a b D).1,(ob (sv a b D).2).2)else wW a (b+1) c (sv a b D).2
def bZ(D:an)(a:List Int):Int×an:=if 64<a.length then(3,D)else wW a 0 5 D
def eQ(D:an):Option (List Int):=if(D.read vh).2≠0 then none else js (D.read vh).1
def HU(a:List ByteArray):(uA a).Perm a:=List.mergeSort_perm _ _
variable{w:ByteArray}{f8:List ByteArray}{a8 t:List Int}{K e5:List aj}{a c i k:Nat}{a3 f:Nat->Prop}{d r:Option Addr}{b:World}{N o:aj}
def Nu{D:an}:w∈D.list↔(aE D.files w).isSome=true:=by
 unfold an.list;rw[(HU _).mem_iff];constructor
 ·intro a
  cases b:aE D.files w with
  |none=>exact absurd a (jP.1 b)
  |some c=>rfl
 ·intro a
  obtain⟨c,d⟩:=Option.isSome_iff_exists.1 a;exact Xk.2 ⟨_,bS d,rfl⟩
def ny(D:an):D.list.length=D.files.length:=by unfold an.list uA;simp
def Nv(b:List Int)(e:a<5)(D:an):wW b a (5-a) D=if(sv b a D).1≠0 then((sv b a D).1,(ob (sv b a D).2).2)else wW b (a+1) (5-(a+1)) (sv b a D).2:=by
 obtain⟨c,d⟩:∃c,5-a=c+1:=⟨4-a,oM⟩
 rw[d,show 5-(a+1)=c by omega]
 rfl
def FQ{D:Nat->Prop}(f:Row MU 16 b D d a f8):
  Calls XP 292 #[.slice d a c,.string w] b (Ok λp g=>(∃m:Int,p= XH m/\(0<=m↔w∈f8))/\b=g):=by
 have v:=f.len;have q:=f.dN;unfold aK at q;refine ju ⟨λn i g=>∃e:Nat,i=e/\e<=a/\n=a-e/\w∉f8.take e/\b=g,⟨_,0,rfl,Qj _,rfl,sM,rfl⟩,?_⟩;rintro n i _ _ ⟨e,rfl,x,rfl,j,rfl⟩;refine al.dec (λr=>?_) (λr=>?_)
 ·obtain⟨s,k,y,rfl,o,_,t⟩:=f.l_ (i:=e) oM
  refine⟨s,k,rfl,oM,oM,_,t,al.Wv (λl=>?_) (λl=>?_)⟩
  ·exact Ok.mk ⟨⟨_,rfl,λ_=>l▸QZ o,λ_=>oM⟩,rfl⟩
  ·refine⟨_,oM,e+1,aq oM,oM,rfl,?_,rfl⟩
   rw[Qw,o];intro u;rcases Q6.1 u with h|h
   ·exact j h
   ·simp at h;exact l h
 ·rw[Qz oM]at j
  exact Ok.mk ⟨⟨_,rfl,λh=>oM,λh=>absurd h j⟩,rfl⟩
def yO{D:Nat->Prop}(e:Row MU 16 b D d a f8):
  Calls XP 237 #[.slice d a c,.string w] b (Ok λf g=>f= .bool (decide (w∈f8))/\b=g):=by
 refine iu (PC.ok (FQ e) ?_);rintro _ _ ⟨⟨i,rfl,h⟩,rfl⟩;exact⟨_,rfl,Ok.mk ⟨by rw[decide_eq_decide.2 h],rfl⟩⟩
def qC{D:an}(c:aN b a f D):Calls XP 174 #[ZQ a] b (Ok (uC b a f (ob D))):=by
 refine wq (PC.ok (wQ c) ?_);rintro _ n ⟨o,p,q,G,rfl,i,d,r⟩;have s:D.list.length<=64:=by rw[ny];exact c.ok.many
 refine⟨_,_,_,rfl,PC.ok (yO (i.row dC (by unfold aK;omega))) ?_⟩;rintro _ _ ⟨rfl,rfl⟩;have h:(k_∈D.list)↔(aE D.files k_).isSome=true:=Nu;refine⟨_,rfl,al.dec (λe=>PC.ok (xx (c.ah d)) λj k l=>lj j k d ?_) (λe=>?_)⟩
 ·have g:ob D=D.delete k_:=by unfold ob;rw[if_pos (h.1 e)]
  rw[g];exact l
 ·have g:ob D=(0,D):=by unfold ob;rw[if_neg λm=>e (h.2 m)]
  rw[g];exact Ok.mk (uC.same (c.ah d) d.af)
def Bq(E:pN b)(v:Row aJ 8 b f d a t)(w:∀k∈t,aH k)(hD:∀g,f g->g<b.heap.size)(F:t.length<=64):
  Calls XP 179 #[.agg #[.slice d a c]] b (Ok (py fv 5 b (vi t))):=by
 have H:=v.len;refine wu (PA.mk λI J s1 x=>⟨_,_,_,ae x rfl,PC.ok (AT (m:=(a:Int)) (by unfold aH;omega) (Row.nil I λ_=>False) (by unfold aK;omega) λ_ L=>L.elim) ?_⟩);rintro _ M ⟨a2,n2,c2,N,rfl,y,z,O⟩;have P:ai b M:=J.then z;have Q:nP (a:Int)=bI ((a:Int)::t.take 0):=by simp[bI]
 rw[List.nil_append,Q]at y;refine⟨_,_,_,rfl,_,_,_,ae (z.get x id) rfl,λA n o p i B=>∃e:Nat,i=e/\e<=a/\A=a-e/\∃C,aO fv 5 C B n o p (bI ((a:Int)::t.take e))/\ai b B/\∀g,C g->b.heap.size<=g,
  ⟨_,0,rfl,Qj _,rfl,N,y,P,λg l=>by have:=O g l;omega⟩,?_⟩
 rintro A n o p i _ R ⟨e,rfl,hj,rfl,S,h,j,a0⟩;have a1:(bI ((a:Int)::t.take e)).length<=9*(e+1):=by
  have h1:=fj (l:=(a:Int)::t.take e) (by
   intro k K;rcases Q2.1 K with rfl|K
   ·unfold aH;omega
   ·exact w k (List.mem_of_mem_take K))
  have h2:((a:Int)::t.take e).length=e+1:=by simp;omega
  omega
 have a3:=h.len dC;refine al.dec (λa5=>?_) (λa6=>?_)
 ·obtain⟨g,q,k,rfl,K,T,U⟩:=(v.ah j).l_ (i:=e) oM
  refine⟨g,q,rfl,oM,oM,_,U,PC.ok (AT T (h.row (bytes:=1) dC (by unfold aK;omega)) (by unfold aK;omega) h.aB) ?_⟩;rintro _ V ⟨W,X,Y,r,rfl,m,s,u⟩;refine⟨_,_,_,rfl,_,?_,e+1,aq oM,oM,rfl,r,?_,j.then s,λg l=>by have:=u g l;have:=j.size;omega⟩
  ·omega
  ·have Z:bI ((a:Int)::t.take (e+1))=bI ((a:Int)::t.take e)++nP k:=by
    rw[Qw,K,<-List.cons_append,gU]
    congr 1
    simp[bI]
   rw[Z];exact m
 ·obtain rfl:e=a:=oM
  rw[Qz oM,H]at h
  change aO fv 5 S R n o p (wX t)at h
  have a7:=DP w F;refine PC.ok (DA (E.ah j) (h.row (bytes:=1) dC (by unfold aK;omega)) h.aB) ?_;rintro _ V ⟨_,rfl,W,X,Y,r,rfl,m,s,u⟩;rw[show jG 2 (wX t)=(vi t,0) by unfold jG vi;rw[if_neg dC,if_neg oM]]at m⊢;exact⟨_,_,_,_,rfl,Ok.mk ⟨_,_,_,r,rfl,m,j.then s,λg l=>by have:=u g l;have:=j.size;omega⟩⟩
def Br{D:an}(ht:pN b)(hD:aN b a f D)(hl:Row aJ 8 b a3 d c t)(a8:∀b8∈t,aH b8)(a0:∀e,a3 e->e<b.heap.size/\¬f e)(a9:∀e,f e->e≠2/\e≠3):
  Calls XP 112 #[ZQ a,.agg #[.slice d c i]] b (Ok (uC b a f (bZ D t))):=by
 have hn:=hl.len;refine vS (PA.mk λw1 k1 s1 g1=>PA.mk λl U s2 g2=>PA.mk λw3 I s3 g3=>⟨_,_,_,ae (I.get g2 id) rfl,al.dec (λh=>?_) (λh=>?_)⟩)
 ·refine PS.mk g3 sM λq C s4 g4=>⟨_,ae g4 rfl,?_⟩
  have m:bZ D t=(3,D):=by unfold bZ;rw[if_pos oM]
  rw[m];have z:ai b q:=((k1.then U).then I).new C λe g=>.inr oM;exact Ok.mk (uC.same (hD.ah z) z.af)
 refine PA.mk λq C s4 g4=>?_;have z:ai b q:=((k1.then U).then I).then C;have m:bZ D t=wW t 0 5 D:=by unfold bZ;rw[if_neg oM]
 rw[m];have J:=hD.aB;refine⟨λa2 N n=>∃(v:Nat) (K:an) (w:Nat->Prop),N=v/\v<=5/\a2=5-v/\wW t 0 5 D=wW t v (5-v) K/\aN n a w K/\ak (λe=>f e\/e=l.heap.size) q n/\(∀e,w e->f e\/q.heap.size<=e)/\n.heap[l.heap.size]? =some (.cells #[XH 0] 34 (0,0)),
  ⟨_,0,D,f,rfl,oM,rfl,rfl,hD.ah z,ak.refl _,λe g=>.inl g,C.get g3 id⟩,?_⟩
 rintro a2 N _ y ⟨v,K,w,rfl,hi,rfl,O,E,F,V,ge⟩;have W:∀e,b.heap.size<=e->e<q.heap.size->¬w e:=λe h1 h2 hf=>by
  rcases V e hf with h|h
  ·have:=J e h;omega
  ·omega
 have P:y.heap[b.heap.size]? =some (.cells #[ZQ a] 93 (0,0)):=F.get (C.get (I.get (U.get g1 id) id) id) (λr=>r.elim (λh=>by have:=J _ h;omega) (λh=>oM));have gm:y.heap[w1.heap.size]? =some (.cells #[.slice d c i] 211 (0,0)):=F.get (C.get (I.get g2 id) id) (λr=>r.elim (λh=>by have:=J _ h;omega) (λh=>oM));have Q:=F.get g4 (λr=>r.elim (λh=>by have:=J _ h;omega) (λh=>oM));have c6:=F.size;have x:∀(m:Int) (R:an) (G:Nat->Prop) (k:World),aN k a G R->ak (λe=>f e\/e=l.heap.size) q k->(∀e,G e->f e\/q.heap.size<=e)->k.heap[l.heap.size]? =some (.cells #[XH m] 34 (0,0))->
   wW t 0 5 D=(m,if m≠0 then(ob R).2 else R)->
   Lv XP (λb0=>∃B:Int,b0.cell? ⟨l.heap.size,0,none⟩=some (XH B)/\Ok (uC b a f (wW t 0 5 D)) (.returned (XH B)) b0) (λch n=>Ok (uC b a f (wW t 0 5 D)) (.panicked ch) n)
    ([{target:=.fn (.func 173) #[ZQ l.heap.size,ZQ b.heap.size],args:= #[]}]:List Deferred) .returning k:=by
  intro m R G k hE s hG X hr;have b9:k.heap[b.heap.size]? =some (.cells #[ZQ a] 93 (0,0)):=s.get (C.get (I.get (U.get g1 id) id) id) (λr=>r.elim (λh=>by have:=J _ h;omega) (λh=>oM));have o:∀p (L:Nat->Prop) (E':an),aN p a L E'->bK G k L p->wW t 0 5 D=(m,E')->∃B:Int,p.cell? ⟨l.heap.size,0,none⟩=some (XH B)/\Ok (uC b a f (wW t 0 5 D)) (.returned (XH B)) p:=by
   intro p L E' a4 u a1;have c0:¬G l.heap.size:=λh=>(hG _ h).elim (λh=>by have:=J _ h;omega) (λh=>oM);have c7:=s.size;refine⟨m,ae (u.af.get X c0) rfl,Ok.mk ?_⟩;rw[a1];refine⟨L,rfl,a4,?_,λe g=>?_⟩
   ·have c1:ak f b k:=z.af.new s λe g=>g.imp id λh=>by omega
    exact c1.new u.af λe g=>(hG e g).imp id λh=>by omega
   ·rcases u.new e g with h|h
    ·exact(hG e h).imp id λh=>by omega
    ·exact .inr oM
  refine Lv.one sM kR (CallsD.mono (rm (R:=λe' p=>e'= .returned (.tuple #[])/\∃B:Int,p.cell? ⟨l.heap.size,0,none⟩=some (XH B)/\Ok (uC b a f (wW t 0 5 D)) (.returned (XH B)) p) ⟨_,ae X rfl,al.dB (λY=>?_) (λZ=>?_)⟩) ?_)
  ·refine⟨_,ae b9 rfl,PC.ok (qC hE) ?_⟩
   rintro _ p ⟨L,rfl,a4,u⟩;exact⟨_,rfl,rfl,o p L _ a4 u (by rw[hr,if_pos Y])⟩
  ·exact⟨rfl,o k G R hE (bK.refl _ _) (by rw[hr,if_neg (by simpa using Z)])⟩
  ·rintro e' u' p ⟨rfl,rfl,hX⟩
   exact Lv.ret rfl hX
 refine al.dec (λc8=>?_) (λc9=>?_)
 ·have b1:v<5:=oM
  have step:∀κ ε,(∀A n,uC y a w (sv t v K) A n->κ A n)->∃b2:Value,y.cell? ⟨w3.heap.size,0+Int.toNat (v:Int),none⟩=some b2/\∃a5 a7 b3,b2= .func (.func a5) a7 b3/\enters XP a5=true/\PC XP a5 (a7++ #[]++b3) y κ ε:=by
   intro κ ε j;rw[Qx,Xz];have o:∀{b4:Int×an} {A n},uC y a w b4 A n->∃N:Int,A= XH N/\Ok (uC y a w b4) (.returned (XH N)) n:=λh=>lj _ _ (ak.refl _) h
   match v,b1,j with
   |0,_,j=>exact⟨_,ae Q rfl,_,_,_,rfl,kR,PC.ok (s_ ⟨_,ae P rfl,PC.ok (qC E) λA n h=>o h⟩) j⟩
   |1,_,j=>exact⟨_,ae Q rfl,_,_,_,rfl,kR,PC.ok (td ⟨_,ae P rfl,PC.ok (xy E) λA n h=>o h⟩) j⟩
   |2,_,j=>
    refine⟨_,ae Q rfl,_,_,_,rfl,kR,PC.ok (φ:=uC y a w (sv t 2 K)) (te λk d6=>?_) j⟩;have s:ai y k:=d6.af;have H:ak (λe=>f e\/e=l.heap.size) q k:=F.then s.af;have c2:Row aJ 8 k a3 d c t:=(hl.ah z).af H λe g r=>r.elim (a0 e g).2 λh=>by have:=(a0 e g).1;omega
    have c3:pN k:=by
     have:=(ht.ah z)
     have d0:b.heap.size<=q.heap.size:=z.size;have h1:=ht.lt;have hz:=H.size;refine⟨λS hj=>?_,λS hj=>?_,oM⟩
     ·exact(this.lower S hj)▸H.cell (a:=⟨2,S,none⟩) (by show 2<_;omega) (λr=>r.elim (λh=>(a9 _ h).1 rfl) (λh=>by have h:2=l.heap.size:=h;omega))
     ·exact(this.upper S hj)▸H.cell (a:=⟨3,S,none⟩) (by show 3<_;omega) (λr=>r.elim (λh=>(a9 _ h).2 rfl) (λh=>by have h:3=l.heap.size:=h;omega))
    refine⟨w,W _ (Q4 _) oM,_,ae (s.get P id) rfl,_,_,_,ae (s.get gm id) rfl,PC.ok (Bq c3 c2 a8 (λe g=>by have:=(a0 e g).1;have:=z.size;have:=H.size;omega) oM) ?_⟩;rintro _ p ⟨d1,n7,d2,F7,rfl,a6,M,c4⟩;have d3:=Bs t;have d4:=DP a8 oM;refine⟨_,_,_,rfl,M.af,PC.ok (xz ((E.ah s).ah M) (a6.row dC (by unfold aK;omega)) (λm=>a6.MO m) λe g=>⟨a6.aB e g,λhf=>by have:=E.aB e hf;have:=c4 e g;have:=s.size;omega⟩) ?_⟩;rintro _ w8 ⟨F8,rfl,c5,u⟩;exact⟨_,rfl,u.af,Ok.mk ⟨F8,rfl,c5,(bK.mk (ai.af (s.then M)) λ_ h=>.inl h:bK w y w p).trans u⟩⟩
   |3,_,j=>exact⟨_,ae Q rfl,_,_,_,rfl,kR,PC.ok (tf ⟨_,ae P rfl,PC.ok (Dt E) λA n h=>o h⟩) j⟩
   |4,_,j=>exact⟨_,ae Q rfl,_,_,_,rfl,kR,PC.ok (tg ⟨_,ae P rfl,PC.ok (HD E) λA n h=>o h⟩) j⟩
  refine⟨_,_,rfl,oM,oM,step _ _ ?_⟩;rintro _ k ⟨F6,rfl,h6,u⟩;have b5:∀e,F6 e->e≠l.heap.size:=λe g m=>by
   subst m;rcases u.new _ g with h|h
   ·exact W _ oM oM h
   ·omega
  have b6:∀e,F6 e->f e\/q.heap.size<=e:=λe g=>by
   rcases u.new e g with h|h
   ·exact V e h
   ·exact .inr oM
  have H:ak (λe=>f e\/e=l.heap.size) q k:=F.new u.af λe g=>(V e g).imp .inl id;refine⟨_,rfl,PS.mk (u.af.get ge (W _ oM oM)) sM λp M s7 T=>?_⟩;have h7:=h6.af M λe g=>b5 e g;have b7:ak (λe=>f e\/e=l.heap.size) q p:=H.then (M.mono λe _ g=>.inr g);rw[Nv t b1]at O;refine⟨_,ae T rfl,al.dB (λY=>?_) (λZ=>?_)⟩
  ·refine⟨_,ae T rfl,PS.mk T sM λw8 k8 s8 g8=>?_⟩
   exact x _ _ F6 w8 (h7.af k8 λe g=>b5 e g) (b7.then (k8.mono λe _ g=>.inr g)) b6 g8 (by rw[O,if_pos Y,if_pos Y])
  ·rw[if_neg (by simpa using Z)]at O
   rw[Z]at T;exact⟨rfl,_,oM,v+1,_,F6,aq oM,oM,rfl,O,h7,b7,b6,T⟩
 ·obtain rfl:v=5:=oM
  refine⟨_,ae ge rfl,PS.mk ge sM λk s s6 X=>?_⟩;refine x 0 K w k (E.af s λe g m=>W e oM oM g) (F.then (s.mono λe _ g=>.inr g)) V X ?_;rw[O];rfl
def CH{D:an}(ht:pN b)(hD:aN b a f D):
  Calls XP 109 #[ZQ a] b (Ok λQ j=>∃o p q G,Q= .tuple #[.agg #[.slice o p q],.bool (eQ D).isSome]/\aO aJ 3 G j o p q ((eQ D).getD [])/\ai b j/\∀c,G c->b.heap.size<=c):=by
 refine yq (PA.mk λB E s1 g1=>PC.ok (wP (hD.ah E)) ?_);rintro _ w2 ⟨_,rfl,a7,n2,c2,F2,rfl,v,R,e8⟩
 change aO fv 5 F2 w2 a7 n2 c2 (D.read vh).1 at v
 have b3:(D.read vh).1.length<=262144:=by
  unfold an.read;split
  ·simp
  ·split
   ·simp
   ·rename_i e7 hf;exact hD.ok.len (bS hf)
 have a3:∀{j},ai B j->j.heap[b.heap.size]? =some (.cells #[.slice none 0 0] 211 (0,0)):=λhk=>hk.get g1 id;have g:eQ D=none->∀w,ai B w->PS w ⟨b.heap.size,0,none⟩ (.slice none 0 0) λx=>∃(b4:Option Addr) (b5:Nat) (b6:Nat),x.cell? ⟨b.heap.size,0,none⟩=some (.slice b4 b5 b6)/\
   Ok (λQ j=>∃o p q G,Q= .tuple #[.agg #[.slice o p q],.bool (eQ D).isSome]/\aO aJ 3 G j o p q ((eQ D).getD [])/\ai b j/\∀c,G c->b.heap.size<=c) (.returned (.tuple #[.agg #[.slice b4 b5 b6],.bool false])) x:=by
  intro S w F;refine PS.mk (a3 F) sM λw4 T s4 U=>⟨_,_,_,ae U rfl,?_⟩
  rw[S];exact Ok.mk ⟨none,0,0,λ_=>False,rfl,aO.nil w4,(E.then F).new T λc d=>.inr oM,λ_ h=>h.elim⟩
 refine⟨_,_,_,_,rfl,al.dB (λn=>g (by unfold eQ;exact if_pos n) w2 R) (λS=>?_)⟩;have C:eQ D=js (D.read vh).1:=by unfold eQ;exact if_neg λh=>h S
 generalize(D.read vh).1=H at v b3 C;have d6:=v.len dC;refine PC.ok (DB (ht.ah (E.then R)) (v.row (bytes:=1) dC (by unfold aK;omega)) v.jT v.aB) ?_;rintro _ w ⟨c0,n3,c3,F3,rfl,b7,F,e9⟩;refine⟨_,_,_,_,_,_,rfl,PA.mk λw4 T s4 U=>PS.mk U sM λw5 k5 s5 g5=>PS.mk g5 sM λy k6 s6 g6=>?_⟩;have V:y.heap[w.heap.size]? =some (.cells #[XH (bk H).kind,.slice c0 n3 c3] 277 (0,0)):=g6;have W:ai w y:=(T.new k5 λc d=>.inr oM).new k6 λc d=>.inr oM;have t:ai B y:=(R.then F).then W;have f8:=W.size;refine al.dB (λn=>g (by rw[C];unfold js;exact if_pos (.inl n)) y t) (λb8=>?_);refine al.dB (λn=>g (by rw[C];unfold js;exact if_pos (.inr (.inl λi=>n (by rw[i,d6])))) y t) (λg0=>?_);refine⟨_,ae V rfl,al.dB (λn=>g (by rw[C];unfold js;exact if_pos (.inr (.inr n))) y t) (λd7=>?_)⟩;have X:eQ D=if kj (od (bk H).body).2≠0 then none else some (od (bk H).body).1:=by
  rw[C];unfold js;refine if_neg ?_;rintro(h|h|h)
  ·exact h b8
  ·exact h oM
  ·exact h d7
 have Y:=b7.ah W;obtain⟨g2,h9,d8⟩:=uK b8;generalize(bk H).body=e at Y X d8 V b7;refine⟨_,_,_,ae V rfl,PC.ok (Dw (Y.row (bytes:=1) dC (by unfold aK;omega)) Y.aB) ?_⟩;rintro _ x ⟨I,a4,rfl,J,k7,hP⟩;refine⟨_,rfl,PA.mk λw8 k8 s8 g8=>PC.ok (HG (m:=64) (J.ah k8)) ?_⟩;rintro _ u ⟨rfl,Z,k9⟩;have b9:=J.aB;have hq:=J.self;have g3:=b9 I hq;have g7:=hP I hq;obtain⟨c1,a8,c5,c4⟩:=lP.Fit.count (r:=⟨e,0,0⟩) ⟨Qj _,.inl rfl⟩ (m:=64) oM;have g9:u.heap[x.heap.size]? =some (.cells #[.slice none 0 0] 211 (0,0)):=k9.get g8 (λi=>oM);have K:od e=bg (bW 64 ⟨e,0,0⟩).1.toNat (bW 64 ⟨e,0,0⟩).2:=rfl;have L:ai B u:=((t.then k7).then k8).new k9 λc d=>.inr (by have:=t.size;omega);generalize h2:bW 64 ⟨e,0,0⟩=ct at Z c1 a8 c5 c4 K;obtain⟨cn,M⟩:=ct;simp only at Z c1 a8 c5 c4 K;refine⟨_,rfl,λm a5 j=>∃k:Nat,a5=k/\(k:Int)<=cn/\m=cn.toNat-k/\eJ j I a4 (bg k M).2/\ai B j/\∃o p q G,j.heap[x.heap.size]? =some (.cells #[.slice o p q] 211 (0,0))/\aO aJ 3 G j o p q (bg k M).1/\(∀c,G c->u.heap.size<=c)/\u.heap.size<=j.heap.size,
  ⟨_,0,rfl,a8,rfl,Z,L,none,0,0,λ_=>False,g9,aO.nil u,λ_ h=>h.elim,Q4 _⟩,?_⟩
 have h3:=k9.size;rintro m a5 _ c6 ⟨k,rfl,hj,rfl,a0,N,c7,c8,c9,d0,a9,z,r,f0⟩;have d9:∀c,a4 c->c<u.heap.size:=λc d=>by have:=b9 c d;omega
 refine al.dec (λh4=>?_) (λh5=>?_)
 ·intro O b0
  have l:ai c6 O:=b0.af;refine⟨(λc=>c=I\/d0 c),λhs=>hs.elim (λi=>oM) (λi=>by have:=r _ i;omega),_,_,_,ae (l.get a9 id) rfl,PC.ok (Fk (a0.ah l)) ?_⟩;rintro _ d1 ⟨rfl,d2,s⟩;obtain⟨f1,f2,f3,f4⟩:=c1.ints k;obtain⟨f5,f6,f7⟩:=f1.int;refine⟨_,rfl,s.mono λc _ d=>.inl d,?_⟩;have a1:=(z.ah l).af s λc d i=>by have:=r c d;omega
  refine PA.mk λh6 A h7 e0=>⟨A.af,?_⟩
  have d3:=a1.ah A;have d4:(bg k M).1.length=k:=f3;refine kh d3 tQ (D:=(·=d1.heap.size)) (Row.lit e0 [(fk (bg k M).2).1] rfl (λf9 hx=>by simp at hx;subst hx;exact f6) (by unfold aK;simp)) (λc i=>⟨oM,λe2=>by have:=a1.aB c (a1.self c e2);omega⟩) (by rw[d4];unfold aK;simp;omega) (by rw[d4];unfold maxLen;simp;omega) λb1 e1 e3 h8 a2 P _ d5=>?_
  replace a2:=a2.alone
  have e4:e3.heap[x.heap.size]? =some (.cells #[.slice c7 c8 c9] 211 (0,0)):=P.get (A.get (s.get (l.get a9 id) (λi=>oM)) id) (λi=>by have:=r _ (z.self _ i);omega);have z1:=l.size;have z2:=s.size;have z3:=A.size;have z4:=P.size;have a6:∀c,aF b1=some c->u.heap.size<=c:=λc d=>by
   rcases d5 c d with h|h
   ·exact r c h
   ·omega
  refine⟨_,_,_,rfl,PS.mk e4 sM λi0 b2 i1 e5=>⟨_,oM,k+1,aq oM,oM,rfl,?_,?_,b1,_,e1,(λc=>aF b1=some c),e5,?_,a6,oM⟩⟩
  ·refine(((d2.ah A).af P λc d i=>by have:=d9 c d;have:=r c (z.self c i);omega)).af b2 λc d i=>by have:=J.aB c d;omega
  ·refine((((N.then l).new s λc d=>.inr (by have:=t.size;omega)).then A).new P λc d=>.inr (by have:=r c (z.self c d);have:=L.size;omega)).new b2 λc d=>.inr (by have:=(t.then k7).size;omega)
  ·exact a2.af b2 λc d i=>by have:=a6 c d;omega
 ·obtain rfl:cn=(k:Int):=oM
  rw[Qx]at K;rw[<-K]at a0 z;refine PC.ok (LF a0) ?_;rintro _ O ⟨rfl,b0⟩;have l:ai c6 O:=b0.af;refine⟨_,rfl,al.dB (λn=>g (by rw[X];exact if_pos n) O (N.then l)) (λh0=>?_)⟩;have hS:eQ D=some (od e).1:=by rw[X];exact if_neg λh=>h h0
  rw[hS];refine⟨_,_,_,ae (l.get a9 id) rfl,PS.mk (a3 (N.then l)) sM λd1 s i2 e6=>⟨_,_,_,ae e6 rfl,Ok.mk ⟨c7,c8,c9,d0,rfl,?_,?_,?_⟩⟩⟩
  ·exact(z.ah l).af s λc d i=>by have:=r c d;have:=L.size;omega
  ·exact(E.then (N.then l)).new s λc d=>.inr oM
  ·intro c d;have:=r c d;have:=L.size;omega
def FD{x y:Operand}{a b c d:Int}{w:World}:(do eqGuard .eql 46 x y (.agg #[XH a,XH b]) (.agg #[XH c,XH d]);binOp .eql 46 (.agg #[XH a,XH b]) (.agg #[XH c,XH d]):Sem Value).run XP w= .ok (.bool (a==c&&b==d)) w:=by
 have h:Tryz.prog.underlying 46=some (.struct (Tryz.prog.fieldsOf 46)):=kR
 have g:Tryz.prog.underlying 3=some (.int .i64):=kR
 have e:(Tryz.prog.fieldsOf 46).toList.map (λf=>(f.name,f.type,f.offset))=[("Origin",3,0),("Seq",3,1)]:=kR
 rw[Sem.run_bind,run_eqGuard_agg w .eql _ x y _ _ kR,Result.andThen_ok,run_eql_struct,run_equalIn_struct w 9999 _ _ _ h kR];generalize(Tryz.prog.fieldsOf 46).toList=i at e
 match i,e with
 |[f,u],e=>
  simp only[QY,List.map_nil,List.cons.injEq,Prod.mk.injEq,and_true]at e;obtain⟨⟨j,k,l⟩,m,n,o⟩:=e;have p:(isAgg 3).run XP w= .ok false w:=cI _ _ _ kR ⟨_,g⟩ w;have q:=run_equalIn_int (P:=XP) w 9998 3 .i64 .i64 a c g;have r:=run_equalIn_int (P:=XP) w 9998 3 .i64 .i64 b d g;unfold Op.eqFields Op.eqFields Op.eqFields;rw[j,k,l,m,n,o]
  cases s:a==c<;>simp[part,p,q,r,s]
  by_cases t:b=d<;>simp[t]
 |[],e=>simp at e
 |[_],e=>simp at e
 |_::_::_::_,e=>simp at e
def sh{e l u v:Nat}{D w:Nat->Prop}(f:Row aJ 8 b D d e t)(m:Row aJ 8 b w r l a8):
  Calls XP 14 #[.slice d e u,.slice r l v] b (Ok λx g=>x= .bool (decide (t=a8))/\bd b g):=by
 have y:=f.len;have z:=m.len;have A:=f.dN;unfold aK at A;refine Aj (al.dB (λn=>?_) (λn=>?_))
 ·have h:t≠a8:=by rintro rfl;simp[y,z]at n
  exact Ok.mk ⟨by simp[h],bd.refl b⟩
 ·refine⟨λo i g=>∃a:Nat,i=a/\a<=e/\o=e-a/\t.take a=a8.take a/\bd b g,⟨_,0,rfl,Qj _,rfl,rfl,bd.refl b⟩,?_⟩
  rintro o i _ M ⟨a,rfl,N,rfl,p,c⟩;refine al.dec (λB=>?_) (λB=>?_)
  ·obtain⟨C,E,O,rfl,q,_,F⟩:=(f.ah c.af).l_ (i:=a) oM
   obtain⟨H,I,P,rfl,j,_,J⟩:=(m.ah c.af).l_ (i:=a) oM;refine⟨C,E,rfl,oM,oM,_,F,H,I,rfl,oM,oM,_,J,λQ s=>?_⟩;refine al.dB (λk=>?_) (λk=>?_)
   ·have h:t≠a8:=by rintro rfl;rw[q]at j;cases j;exact k rfl
    exact Ok.mk ⟨by simp[h],c.then s⟩
   ·subst k
    exact⟨_,oM,a+1,aq oM,oM,rfl,DD p q j,c.then s⟩
  ·have:t=a8:=by
    have K:t.take a=t:=Qz oM;have L:a8.take a=a8:=Qz oM;rw[<-K,<-L,p]
   exact Ok.mk ⟨by simp[this],c⟩
def si{D z:Nat->Prop}(A:Row aJ 8 b D d a o.aP)(B:Row aJ 8 b z r c N.aP):
  Calls XP 39 #[.agg (aC o d a i).toArray,.agg (aC N r c k).toArray] b (Ok λp j=>p= .bool (decide (o=N))/\ai b j):=by
 have no:∀{j},ai b j->o≠N->Ok (λp j=>p= .bool (decide (o=N))/\ai b j) (.returned (.bool false)) j:=λC E=>Ok.mk ⟨by rw[Xv E],C⟩;refine yl (PA.mk λJ F K H=>PA.mk λt u L m=>?_);have f:=u.get H id;have n:ai b t:=F.then u;refine⟨_,_,ae f rfl,ae f rfl,_,_,ae m rfl,ae m rfl,aG.mk FD ⟨_,rfl,al.mk (λq=>?_) (λq=>?_)⟩⟩
 rotate_left
 ·exact no n λe=>by subst e;simp at q
 refine⟨_,ae f rfl,_,ae m rfl,al.dA (λv=>?_) (λv=>no n λe=>v (by rw[e]))⟩;refine⟨_,_,_,ae f rfl,_,_,_,ae m rfl,PC.ok (sh (A.ah n) (B.ah n)) ?_⟩;rintro _ w ⟨rfl,I⟩;have s:ai t w:=I.af;have f:=s.get f id;have l:=s.get m id;have h:ai b w:=n.then s;refine⟨_,rfl,al.dec (λx=>?_) (λx=>no h λe=>x (by rw[e]))⟩;refine⟨_,ae f rfl,_,ae l rfl,al.dA (λM=>?_) (λg=>no h λe=>g (by rw[e]))⟩;refine⟨_,ae f rfl,_,ae l rfl,al.dA (λO=>?_) (λg=>no h λe=>g (by rw[e]))⟩;refine⟨_,ae f rfl,_,ae l rfl,al.dA (λP=>?_) (λg=>no h λe=>g (by rw[e]))⟩;refine⟨_,ae f rfl,_,ae l rfl,al.dA (λQ=>?_) (λg=>no h λe=>g (by rw[e]))⟩;refine⟨_,ae f rfl,_,ae l rfl,al.dA (λR=>?_) (λg=>no h λe=>g (by rw[e]))⟩;refine⟨_,ae f rfl,_,ae l rfl,Ok.mk ⟨?_,h⟩⟩
 congr 1
 have S:o.origin=N.origin/\o.seq=N.seq:=by simpa using q
 by_cases y:o.key=N.key
 ·have:o=N:=by cases o;cases N;simp_all
  subst this;simp
 ·rw[Xv λe=>y (by rw[e])]
  simp[y]
def Ab{f o x y:Nat}{D z:Nat->Prop}(h:Row jj 96 b D d f K)(p:Row jj 96 b z r o e5):
  Calls XP 17 #[.slice d f x,.slice r o y] b (Ok λA j=>A= .bool (decide (K=e5))/\ai b j):=by
 have B:=h.len;have C:=p.len;have E:=h.dN;unfold aK at E;refine vT (al.dB (λq=>?_) (λq=>?_))
 ·have k:K≠e5:=by rintro rfl;simp[B,C]at q
  exact Ok.mk ⟨by simp[k],ak.refl b⟩
 ·refine⟨λs i j=>∃e:Nat,i=e/\e<=f/\s=f-e/\K.take e=e5.take e/\ai b j,⟨_,0,rfl,Qj _,rfl,rfl,ak.refl b⟩,?_⟩
  rintro s i _ S ⟨e,rfl,T,rfl,t,u⟩;refine al.dec (λF=>?_) (λF=>?_)
  ·intro H I
   have g:ai b H:=u.then I.af;obtain⟨J,L,U,V,rfl,_,_,v,M,W,X,Y,rfl,N,Z⟩:=(h.ah g).yV (i:=e) oM;obtain⟨O,P,a0,fs,rfl,_,_,l,Q,a2,n2,c2,rfl,R,a3⟩:=(p.ah g).yV (i:=e) oM;have a:=λi (m:i<10)=>M i m;have c:=λi (m:i<10)=>Q i m;refine⟨J,L,rfl,oM,oM,_,_,_,_,_,_,_,_,_,_,_,_,a 0 dC,a 1 dC,a 2 dC,a 3 dC,a 4 dC,a 5 dC,a 6 dC,a 7 dC,a 8 dC,a 9 dC,?_⟩;refine⟨O,P,rfl,oM,oM,_,_,_,_,_,_,_,_,_,_,_,_,c 0 dC,c 1 dC,c 2 dC,c 3 dC,c 4 dC,c 5 dC,c 6 dC,c 7 dC,c 8 dC,c 9 dC,?_⟩;refine PC.ok (si N R) ?_;rintro _ w3 ⟨rfl,w⟩;refine⟨_,rfl,al.not (al.dec (λn=>?_) (λn=>?_))⟩
   ·subst n
    exact⟨_,oM,e+1,aq oM,oM,rfl,DD t v l,g.then w⟩
   ·have k:K≠e5:=by rintro rfl;rw[v]at l;cases l;exact n rfl
    exact Ok.mk ⟨by simp[k],g.then w⟩
  ·have:K=e5:=by
    have a:K.take e=K:=Qz oM;have c:e5.take e=e5:=Qz oM;rw[<-a,<-c,t]
   exact Ok.mk ⟨by simp[this],u⟩
end Go.Proofs.YtjgjkeponbeekaaGreatDoor
namespace Go.ar
open Go.ChangeShapes Go.WideShapes Go.ChangeAt Go.RowKit
def ll{a:Type}(b:Program)(c:TypeId)(d:DataW a):Prop:=∀e∈d.weights b c,e<=reachBytes
abbrev In(a:World):Nat->Prop:=λb=>b<a.heap.size
variable{e:Int}{a c:Nat}{j:Type}{g q:TypeId}{v:Value}
section
variable {H:Type} {enc:TypeId×Value->H} {P:Program} {w:World} {base:Nat} {held:Bool}
def Pc{a:List TypeId}{b:List (DataW H)}(d:(DataW.weightsEach P a b).all (·<=reachBytes)=true){j:Nat}{c:DataW H}(e:a[j]? =some g)(f:b[j]? =some c):ll P g c:=
 λh i=>by simpa using List.all_eq_true.1 d _ (DataW.weights_mem_each e f h i)
def qo{c:TypeId}:∀{a:List (DataW H)} {d:DataW H},d∈a->∀b∈d.weights P c,b∈DataW.weightsAll P c a
 |x::a,d,h,b,e=>by
  simp only[DataW.weightsAll,Q6];rcases Q2.1 h with rfl|h
  ·exact Or.inl e
  ·exact Or.inr (qo h b e)
def Reads{d:Type}(P:Program)(e:jo d)(b:TypeId):Prop:=
 ∀(H:Type) (enc:TypeId×Value->H) (w:World) (held:Bool) (a:Nat) (cs:List Value) (c:DataW H×List MemPlace),DataW.trod enc P w 0 (λ_=>true) held a b cs=some c->ll P b c.1->∃f,e.rep w (In w) f cs
def km{d:Option _}(b:w.cell? ⟨a,c,d⟩=some v):a<w.heap.size:=by
 unfold World.cell? at b
 by_cases e:a<w.heap.size
 ·exact e
 ·rw[show w.heap[a]? =none by simp;omega]at b;cases b
def open_row{k:jo j}{bytes v:Nat}{cs:List Value}{B:DataW H×List MemPlace}(I:P.underlying g=some (.slice q))(Q:P.cellsOf q=k.k)(J:0<k.k)(R:P.bytesOf q=bytes)(S:Reads P k q)(o:DataW.trod enc P w 0 (λ_=>true) held v g cs=some B)(T:ll P g B.1):
  ∃b p f U,cs=[.slice b p f]/\p<=f/\(b=none->p=0/\f=0)/\Row k bytes w (In w) b p U:=by
 rcases DataW.trod_slice I o with⟨rfl,rfl⟩|⟨b,c,f,a,h,p,_,rfl,rfl,hb,V,hm,a4,W,a5,a6⟩
 ·exact⟨none,0,0,[],rfl,Q4 _,λ_=>⟨rfl,rfl⟩,Row.nil _ _⟩
 ·have x:∀l∈(a.length+h.length)*P.bytesOf q::(DataW.weightsAll P q (a.map (·.1))++DataW.weightsAll P q (h.map (·.1))),l<=reachBytes:=by
   have:=T;simpa only[ll,DataW.weights,I,Q8]using this
  have read:∀e,e<c->∃d l,a[e]? =some l/\d.length=k.k/\(∀i,i<k.k->w.cell? (b.add (e*k.k+i))=d[i]?)/\DataW.trod enc P w 0 (λ_=>true) held p q d=some l:=by
   intro e n;have K:=W e n;rw[Q,Qq (by omega:e<a.length)]at K;obtain⟨d,A,y⟩:=Option.bind_eq_some_iff.1 K;obtain⟨_,C,s⟩:=World.cells?_some A;exact⟨d,_,Qq oM,C,λi E=>by rw[<-Addr.add_add];exact s i E,y⟩
  have X:0<c->b.spot=none:=by
   intro Y;obtain⟨d,l,_,C,s,_⟩:=read 0 Y;have:=s 0 J;rw[Nat.zero_mul,Nat.add_zero,Qq oM]at this;have q:b.add 0=b:=by simp[Addr.add]
   rw[q]at this;unfold World.cell? at this;split at this
   ·cases t:b.spot with
    |none=>rfl
    |some L=>rw[t]at this;simp at this
   ·cases this
  have one:∀e,e<c->∃r,∃u z M,some b=some ⟨u,z,none⟩/\u<w.heap.size/\In w u/\(∀i,i<k.k->w.cell? ⟨u,z+e*k.k+i,none⟩=M[i]?)/\k.rep w (In w) r M:=by
   intro e n;have t:=X oM;have N:∀F,b.add F=⟨b.block,b.off+F,none⟩:=by
    intro F;obtain⟨u,Z,L⟩:=b;simp only at t;subst t;unfold Addr.add;split
    ·next o=>subst o;rfl
    ·rfl
   obtain⟨d,l,y,C,s,h5⟩:=read e n;have a0:ll P q l.1:=λr m=>x r (QJ _ (List.mem_append_left _ (qo (d:=l.1) (Xk.2 ⟨l,QZ y,rfl⟩) r m)));obtain⟨r,m⟩:=S H enc w held p d l h5 a0;have O:b.block<w.heap.size:=by
    have:=s 0 J;rw[N,Qq oM]at this;exact km this
   refine⟨r,b.block,b.off,d,?_,O,O,λi E=>?_,m⟩
   ·obtain⟨u,Z,L⟩:=b
    simp only at t;rw[t]
   ·have:=s i E
    rw[N]at this;rw[<-this,Nat.add_assoc]
  have a1:c*bytes<=aK:=by
   have A:=x _ (QV ..);have y:c*P.bytesOf q<=(a.length+h.length)*P.bytesOf q:=Q0 _ oM;rw[R]at A y;unfold reachBytes at A;unfold aK;omega
  by_cases m:c=0
  ·subst m
   exact⟨some b,0,f,[],rfl,Qj _,λo=>(by cases o),rfl,sM,λe B n=>(by simp at n)⟩
  ·have a2:Nonempty j:=⟨(one 0 oM).choose⟩
   haveI:Inhabited j:=⟨Classical.choice a2⟩
   obtain⟨a3,hf⟩:=Go.Deep.choose_lt one;refine⟨some b,c,f,(List.range c).map a3,rfl,V,λo=>(by cases o),sM,a1,λe r m=>?_⟩
   by_cases n:e<c
   ·rw[Q9,List.getElem?_range n]at m
    cases m
    exact hf e n
   ·rw[Q7 (by simp;omega)]at m;cases m
def aX(a:(Lit.int .i64 e).wf=true):aH e:=by
 have:IntKind.i64.min<=e/\e<=IntKind.i64.max:=by simpa[Lit.wf]using a
 exact this
end
section
variable {H:Type} {enc:TypeId×Value->H} {P:Program} {w:World} {held:Bool} {r:Reach} {b0:Nat} {v:Value} {d:DataW H} {ps:List MemPlace}
def JI(b:P.underlying g=some (.int .i64))(c:Value.okWide P w r b0 g v)(e:DataW.Trod enc P w 0 (λ_=>true) held g v d ps):∃a,v= XH a/\aH a:=by
 obtain⟨a,rfl,-,-,f⟩:=open_int b c e;exact⟨a,rfl,aX f⟩
end
variable{n:Array Value}{a4:Func}{f9:List MemPlace}{b l:World}
def ai.below(a:ai b l):Below b.heap.size b l:=⟨a.os,a.tape,a.output,a.size,λc d=>a.block c d id⟩
section
variable {H:Type} {enc:TypeId×Value->H} {P:Program}
def uL(j:laidOutB P=true){f k:World}(l:ai f k){m:Nat->Bool}:∀{c:List TypeId} {n:List Value} {o:List (DataW H)} {d:List MemPlace},c.all (λg=>P.readableRec g&&decide (g<P.types.size))=true->(∀a∈d,a.block<f.heap.size)->(∀a∈d,m a.block=true)->
  DataW.TrodAll enc P f 0 (λ_=>true) true c n o d->DataW.TrodAll enc P k 0 m true c n o d
 |[],_,_,_,_,_,_,b=>by
  obtain⟨rfl,rfl,rfl⟩:=trodAll_nil b;exact trodAll_mk0
 |g::c,_,_,_,e,p,q,b=>by
  obtain⟨t,u,v,w,x,y,rfl,rfl,rfl,r,s⟩:=trodAll_cons b;simp only[List.all_cons,QK,decide_eq_true_eq]at e;refine trodAll_cons_mk (WideElems.Trod_stays j e.1.1 e.1.2 r (λh i=>l.below.same (p h (List.mem_append_left _ i))) λh i=>q h (List.mem_append_left _ i)) (uL j l (by simpa using e.2) (λa b=>p a (List.mem_append_right _ b)) (λa b=>q a (List.mem_append_right _ b)) s)
def MF{d:ChangeSpec}{f o:List (DataW H)}{tb:TypeId}{a i E j:Bool}(F:laidOutB P=true)(u:a4.resultTypes= #[tb])(v:P.underlying tb=some .bool)(w:d.vars=[])(I:(d.fn H (f++o)).results=[.lit (.bool true)])(J:(d.fn H (f++o)).args=f)(K:(d.fn H (f++o)).vars=[])(L:a4.params.toList.all (λx=>P.readableRec x&&decide (x<P.types.size))=true)(p:DataW.Whole enc P a4.params.toList d.vars a b n.toList f o f9)(q:ai b l):d.post enc P a4 a i E j b n (.bool true) l:=by
 have M:=p;have r:=λc e=>p.lt c e;obtain⟨c,V,N,y,O,Q,R⟩:=p;rw[w]at y;obtain⟨rfl,rfl⟩:=trodVars_none y;obtain rfl:f9=c:=by simpa using O
 have z:∀g:Nat->Bool,(∀c∈f9,g c.block=true)->DataW.TrodAll enc P l 0 g true a4.params.toList n.toList (d.fn H (f++[])).args f9:=λg S=>by
  rw[J];exact uL F q L (λs t=>by simpa using r s t) (λs t=>S s t) N
 have A:∀(h:Nat) (g:Nat->Bool) (B:Bool),DataW.TrodAll enc P l h g B a4.resultTypes.toList ((Value.bool true).resultList a4.resultTypes.size) (d.fn H (f++[])).results []:=λh g B=>by
  rw[u,I];exact trodAll_cons_mk (shut_bool v _) trodAll_mk0
 have C:∀g:Nat->Bool,DataW.TrodVars enc P l g d.vars (d.fn H (f++[])).vars []:=λg=>by rw[K,w];exact rfl
 have T:∀c∈f9,(λh=>decide (h<b.heap.size)) c.block=true:=λc e=>by simpa using r c e
 refine⟨f,[],f9,[],f9,[],M,A _ _ _,z _ T,C _,World.keptBut_mono (λc e=>⟨e,Or.inr (by simpa using e)⟩) (q.below.frame (·∈f9)),λ_=>?_⟩;refine⟨ok_one u rfl (okWide_bool_mk v _),_,_,([]++f9)++[],⟨[]++f9,[],trodAll_append (z _ (λ_ _=>rfl)) (A _ _ _),C _,rfl,?_,?_⟩,?_⟩
 ·intro h k e
  have m:MemPlace.cell h k∈f9:=by simpa using e
  rw[q.below.frozen (p:=⟨h,k,none⟩) (r _ m)];exact Q h k (by simpa using m)
 ·intro U
  simpa using R U
 ·intro c e _
  simpa using e
end
end Go.ar
namespace Go.Proofs.YtjgjkeponbeekaaGreatDoor
open Go.ar
def aR(c b:World)(f:Nat)(D:an)(d:Nat->Prop):Prop:=∃e,aN b f e D/\ai c b/\(∀a,e a->c.heap.size<=a/\¬d a)/\∀a,d a->a<b.heap.size
abbrev no:Nat->Prop:=λ_=>False
abbrev dj(a:Nat->Prop):Nat->Prop:=λb=>¬a b
variable{n:Array Value}{z:FuncId}{e:Int}{d5:Int×an}{x:List UInt8}{a c:Nat}{f:Nat->Prop}{d:Option Addr}
section
variable {w0 w w1 w':World} {p:Nat} {D D':an} {X Y:Nat->Prop}
def aR.gr(a:aR w0 w p D X):ai w0 w:=by obtain⟨c,d,b,e,f⟩:=a;exact b
def aR.ok(a:aR w0 w p D X):D.Ok:=by obtain⟨c,b,d,e,f⟩:=a;exact b.ok
def aR.ah(b:aR w0 w p D X)(a:ai w w'):aR w0 w' p D X:=by
 obtain⟨c,d,e,f,g⟩:=b;exact⟨c,d.ah a,e.ah a,f,λh i=>Qk (g h i) a.size⟩
def aR.mono(e:aR w0 w p D X)(c:∀a,Y a->X a):aR w0 w p D Y:=by
 obtain⟨f,g,h,d,i⟩:=e;exact⟨f,g,h,λa b=>⟨(d a b).1,λj=>(d a b).2 (c a j)⟩,λa b=>i a (c a b)⟩
def aR.add(b:aR w0 w p D X)(d:ai w w')(e:∀a,Y a->w.heap.size<=a/\a<w'.heap.size):aR w0 w' p D (λa=>X a\/Y a):=by
 obtain⟨h,f,i,g,j⟩:=b;exact⟨h,f.ah d,i.ah d,λa c=>⟨(g a c).1,λk=>k.elim (g a c).2 λl=>by have:=f.aB a c;have:=(e a l).1;omega⟩,λa c=>c.elim (λb=>Qk (j a b) d.size) λb=>(e a b).2⟩
def aR.of(c:ai w0 w)(d:ai w w')(h:aN w' p f D)(e:∀a,f a->w.heap.size<=a)(g:∀a,X a->a<w.heap.size):aR w0 w' p D X:=
 ⟨f,h,c.ah d,λa b=>⟨Xx c.size (e a b),λi=>by have:=e a b;have:=g a i;omega⟩,λa b=>Qk (g a b) d.size⟩
def mS(w0 w:World)(p:Nat)(X:Nat->Prop)(a:Int×an)(b:Value)(w':World):Prop:=b= XH a.1/\aR w0 w' p a.2 X/\ak (dj X) w w'
def aR.Vg(g:aR w0 w p D X)(f:ai w w1)(k:∀c,aN w1 p c D->(∀a,c a->w0.heap.size<=a/\a<w.heap.size/\¬X a)->Calls XP z n w1 (Ok (uC w1 p c d5))):Calls XP z n w1 (Ok (mS w0 w1 p X d5)):=by
 obtain⟨c,h,i,d,j⟩:=g;refine Calls.ok (k c (h.ah f) λa b=>⟨(d a b).1,h.aB a b,(d a b).2⟩) ?_;rintro r w' ⟨l,m,o,e⟩;have:=f.size;have:=i.size;have:=e.af.size;exact⟨m,⟨l,o,(i.ah f).new e.af λa b=>.inr (d a b).1,λa b=>(e.new a b).elim (d a) λg=>⟨oM,λq=>by have:=j a q;omega⟩,λa b=>by have:=j a b;omega⟩,e.af.mono λa _ b=>(d a b).2⟩
def aR.call(c:aR w0 w p D X)(d:∀b,aN w p b D->(∀a,b a->w0.heap.size<=a/\a<w.heap.size/\¬X a)->Calls XP z n w (Ok (uC w p b d5))):Calls XP z n w (Ok (mS w0 w p X d5)):=c.Vg (ak.refl w) d
def aR.append{h:ByteArray}(e:aR w0 w p D X)(g:Row fv 1 w f d a x)(l:d=none->a=0/\c=0)(i:∀b,f b->b<w0.heap.size\/X b):
  Calls XP 178 #[ZQ p,.string h,.slice d a c] w (Ok (mS w0 w p X (D.append h x))):=by
 have r:=e.gr.size;have m:∀b,X b->b<w.heap.size:=by obtain⟨n,s,t,u,o⟩:=e;exact o
 exact e.call λn q j=>xz q g l λb g=>⟨(i b g).elim (λe=>oM) (m b),λk=>(i b g).elim (λe=>by have:=(j b k).1;omega) (j b k).2.2⟩
def aR.create{a:ByteArray}(b:aR w0 w p D X):Calls XP 170 #[ZQ p,.string a] w (Ok (mS w0 w p X (D.create a))):=b.call λd c _=>xy c
def aR.sync{a:ByteArray}(b:aR w0 w p D X):Calls XP 172 #[ZQ p,.string a] w (Ok (mS w0 w p X (D.sync a))):=b.call λd c _=>Dt c
def aR.HB{k:ByteArray}(a:aR w0 w p D X):Calls XP 169 #[ZQ p,.string k,XH e] w (Ok (mS w0 w p X (D.HB k e))):=a.call λc b _=>Pn b
def aR.delete{a:ByteArray}(b:aR w0 w p D X):Calls XP 141 #[ZQ p,.string a] w (Ok (mS w0 w p X (D.delete a))):=b.call λd c _=>xx c
def aR.read{k:ByteArray}(m:aR w0 w p D X):Calls XP 162 #[ZQ p,.string k] w (Ok λf w'=>∃c d e b,f= .tuple #[.slice c d e,XH (D.read k).2]/\aO fv 5 b w' c d e (D.read k).1/\(∀a,b a->w.heap.size<=a)/\aR w0 w' p D (λa=>X a\/b a)/\ai w w'):=by
 obtain⟨b,g,n⟩:=m;refine Calls.ok (wP g) ?_;rintro f w' ⟨o,rfl,c,d,e,G,rfl,h,i,j⟩;exact⟨c,d,e,G,rfl,h,j,aR.add ⟨b,g,n⟩ i λa l=>⟨j a l,h.aB a l⟩,i⟩
def aR.list(l:aR w0 w p D X):Calls XP 160 #[ZQ p] w (Ok λf w'=>∃c d e b,f= .slice c d e/\aO MU 9 b w' c d e D.list/\(∀a,b a->w.heap.size<=a)/\aR w0 w' p D (λa=>X a\/b a)/\ai w w'):=by
 obtain⟨b,g,m⟩:=l;refine Calls.ok (wQ g) ?_;rintro f w' ⟨c,d,e,G,rfl,h,i,j⟩;exact⟨c,d,e,G,rfl,h,j,aR.add ⟨b,g,m⟩ i λa k=>⟨j a k,h.aB a k⟩,i⟩
end
def TW(a:Nat):an:=⟨a,[],false,0,false⟩
variable{s:Ending->World->Prop}{t:List Int}{b l:World}
def sF(i:ai b l)(n:64<=e)(o:e<=262144):Calls XP 42 #[XH e] l (Ok λd c=>∃a,d= .tuple #[ZQ a,XH 0]/\aR b c a (TW e.toNat) (λf=>f<l.heap.size)/\ai l c):=by
 refine Calls.ok MW ?_;intro d c g;rw[if_neg oM]at g;obtain⟨a,p,rfl,j,h,k⟩:=g;exact⟨a,rfl,aR.of i h j k λf m=>m,h⟩
def HI{D:an}(a:D.Ok)(b:ByteArray):(D.read b).1.length<=262144:=by
 unfold an.read;split
 ·simp
 ·split
  ·simp
  ·rename_i d c;exact a.len (bS c)
def nA:ByteArray:=⟨#[97]⟩
open Go.ar Go.ChangeShapes Go.WideShapes Go.ChangeAt Go.RowKit
section
variable {w0 w w1 w':World} {p:Nat} {D D':an} {X Y:Nat->Prop}
def aR.bZ(e:aR w0 w p D X)(i:pN w0)(l:Row aJ 8 w f d a t)(m:∀n∈t,aH n)(j:∀b,f b->b<w0.heap.size\/X b):
  Calls XP 112 #[ZQ p,.agg #[.slice d a c]] w (Ok (mS w0 w p X (bZ D t))):=by
 have u:=e.gr.size;have o:∀b,X b->b<w.heap.size:=by obtain⟨q,v,x,y,r⟩:=e;exact r
 have z:=i.lt;exact e.call λq s h=>Br (i.ah e.gr) s l m (λb g=>⟨(j b g).elim (λe=>oM) (o b),λk=>(j b g).elim (λe=>by have:=(h b k).1;omega) (h b k).2.2⟩) λb g=>by have:=(h b g).1;omega
def aR.js(e:aR w0 w p D X)(l:pN w0):Calls XP 109 #[ZQ p] w (Ok λf w'=>∃b c d G,f= .tuple #[.agg #[.slice b c d],.bool (eQ D).isSome]/\aO aJ 3 G w' b c d ((eQ D).getD [])/\
  (∀a,G a->w.heap.size<=a)/\aR w0 w' p D (λa=>X a\/G a)/\ai w w'):=by
 have m:=e.gr;obtain⟨n,g,o⟩:=e;refine Calls.ok (CH (l.ah m) g) ?_;rintro f w' ⟨b,c,d,G,rfl,h,i,j⟩;exact⟨b,c,d,G,rfl,h,j,aR.add ⟨n,g,o⟩ i λa k=>⟨j a k,h.aB a k⟩,i⟩
end
def LU{D:Nat->Prop}{c bytes:Nat}(e:Row aJ bytes b D d c t):∀a∈t,aH a:=λa f=>by
 obtain⟨g,h⟩:=List.mem_iff_getElem?.1 f;obtain⟨k,i,l,-,-,-,-,j⟩:=e.el g a h;exact j.2
def Dg{D:an}:((eQ D).getD []).length<=64:=by
 unfold eQ;split
 ·simp
 ·cases a:js (D.read vh).1 with
  |none=>simp
  |some b=>exact(Nw a).2
def tn:(k_==vh)=false:=by decide+kernel
def yD:ft:=⟨[(6,[(8,.slice none 0 0),(9,XH 0)])],[],[],[],[]⟩
def yE(a0:PC_ 146 #[.ii e] b (λa3 a4=>∃p,a3= .string p/\PC_ 162 #[.pointer d,.string p] a4 (λa5 q=>∃r m n t,a5= .tuple #[.slice r m n,.ii t]/\al (t !=0) (rt s ((.tuple #[.slice none 0 0,.ii 0])) q) ((∃o:Nat->Option Addr->Nat->Nat->Int->World->Prop,(∃l,o l none 0 0 0 q)/\∀(l:Nat) (g:Option Addr) (h:Nat) (i:Nat) (f:Int) (c9:Nat->Value) (u:World),o l g h i f u->((0:Int)<=f/\(f:Int)<=(m:Int)/\PC_ 163 #[.slice (cG r (Int.toNat f) n 1) (m-Int.toNat f) (n-Int.toNat f)] u (λa6 j=>∃v w x y z A,a6= .tuple #[.agg #[.ii v,.slice w x y],.ii z,.ii A]/\PA j (.cells #[.ii 0,.slice none 0 0] 277) λa7=>PS a7 (ab_ j 0) (.ii v) λa8=>PS a8 (ab_ j (0+1)) (.slice w x y) λk=>al (A !=0) (rt s ((.tuple #[.slice g h i,.ii f])) k) ((rI k (ab_ j 0) λa9=>al (a9 !=1) (rt s ((.tuple #[.slice g h i,.ii f])) k) ((rS k (ab_ j (0+1)) λb0 b1 b2=>PC_ 231 #[.slice b0 b1 b2] k (λb3 a=>∃B C D E F G H I J K L M N,b3= .tuple #[.agg #[.ii B,.ii C,.ii D,.slice E F G,.ii H,.ii I,.ii J,.ii K,.ii L,.ii M],.ii N]/\PA a (.cells #[.ii 0,.ii 0,.ii 0,.slice none 0 0,.ii 0,.ii 0,.ii 0,.ii 0,.ii 0,.ii 0] 63) λb4=>PS b4 (ab_ a 0) (.ii B) λb5=>PS b5 (ab_ a (0+1)) (.ii C) λb6=>PS b6 (ab_ a (0+2)) (.ii D) λb7=>PS b7 (ab_ a (0+3)) (.slice E F G) λb8=>PS b8 (ab_ a (0+4)) (.ii H) λb9=>PS b9 (ab_ a (0+5)) (.ii I) λc0=>PS c0 (ab_ a (0+6)) (.ii J) λc1=>PS c1 (ab_ a (0+7)) (.ii K) λc2=>PS c2 (ab_ a (0+8)) (.ii L) λc3=>PS c3 (ab_ a (0+9)) (.ii M) λc=>al (N !=0) (rt s ((.tuple #[.slice g h i,.ii f])) c) ((∃O P Q R S T U V W X Y Z,c.cell? (ab_ a 0)=some (.ii O)/\c.cell? (ab_ a (0+1))=some (.ii P)/\c.cell? (ab_ a (0+2))=some (.ii Q)/\c.cell? (ab_ a (0+3))=some (.slice R S T)/\c.cell? (ab_ a (0+4))=some (.ii U)/\c.cell? (ab_ a (0+5))=some (.ii V)/\c.cell? (ab_ a (0+6))=some (.ii W)/\c.cell? (ab_ a (0+7))=some (.ii X)/\c.cell? (ab_ a (0+8))=some (.ii Y)/\c.cell? (ab_ a (0+9))=some (.ii Z)/\PA c (.cells #[.ii O,.ii P,.ii Q,.slice R S T,.ii U,.ii V,.ii W,.ii X,.ii Y,.ii Z] 63) λc4=>PR_ (ap_ 59 (.slice g h i) (.slice (some (ab_ c 0)) 1 1)) c4 (kS_ λc5 c6 c7 c8=>(∃a2,a2<l/\o a2 c5 c6 c7 (IntKind.wrap .i64 (f+z)) c8)) (pV s)))) (pE s)))))) (pE s))))) (pE s)) (pE s)):Calls XP 168 #[.pointer d,.ii e] b s:=DC yD Tryz.func168 rfl a0
end Go.Proofs.YtjgjkeponbeekaaGreatDoor
namespace Go.ar
open Go
variable{K:List aj}{o:aj}
def qb(a:o.Ok)(b:o.aP.length<=64):fO o=(wJ o,0):=by
 have e:=LS a b;have c:iB o=(bI (ki o),0):=by unfold iB;rw[if_neg oM]
 have d:jG 1 (bI (ki o))=(wJ o,0):=by unfold jG wJ;rw[if_neg dC,if_neg oM]
 unfold fO;rw[c];simp only;rw[d];simp
def xq(b:¬o.aP.length<=64):fO o=([],3):=by
 have a:iB o=([],3):=by unfold iB;rw[if_pos oM]
 unfold fO;rw[a];simp
def ends(a:List aj):List Int:=(List.range a.length).map λb=>((dV (a.take (b+1))).length:Int)
def Ph(b:∀a∈K,a.Ok/\a.aP.length<=64):(dV K).length<=675*K.length:=by
 induction K with
 |nil=>simp[dV]
 |cons a K c=>
  rw[KX,QX,Xq];have f:=IE (b a (QV ..)).1 (b a (QV ..)).2;have g:=c λd e=>b d (QJ _ e);omega
end Go.ar
namespace Go.Proofs.YtjgjkeponbeekaaGreatDoor
open Go.ar
end Go.Proofs.YtjgjkeponbeekaaGreatDoor
namespace Go.ar
open Go
end Go.ar
namespace Go.Proofs.YtjgjkeponbeekaaGreatDoor
open Go.ar
variable{a c:Nat}{f:Nat->Prop}{d:Option Addr}{j:Type}{b:World}{o:aj}
def Dh{D:Nat->Prop}(s:Laid b)(t:Row aJ 8 b D d a o.aP)(k:o.Ok)(u:∀f,D f->f<b.heap.size):
  Calls XP 205 #[.agg (aC o d a c).toArray] b (Ok λv l=>∃m n p q,v= .tuple #[.slice m n p,XH (fO o).2]/\aO fv 5 q l m n p (fO o).1/\ai b l/\∀f,q f->b.heap.size<=f):=by
 refine yu (PA.mk λE g F e=>?_);refine⟨_,_,_,_,_,_,_,_,_,_,_,_,ae e rfl,ae e rfl,ae e rfl,ae e rfl,ae e rfl,ae e rfl,ae e rfl,ae e rfl,ae e rfl,ae e rfl,
  PC.ok (MZ (t.ah g) k λf j=>Qk (u f j) g.size) ?_⟩
 rintro _ w ⟨_,rfl,H,I,J,K,rfl,r,h,L⟩;refine⟨_,_,_,_,rfl,al.dB (λx=>?_) (λy=>?_)⟩
 ·rw[show fO o=([],(iB o).2) by unfold fO;rw[if_pos x]]
  exact Ok.mk ⟨none,0,0,λ_=>False,rfl,aO.nil w,g.then h,λ_ i=>i.elim⟩
 rw[show fO o=jG 1 (iB o).1 by unfold fO;rw[if_neg (by simpa using y)]];have M:(iB o).1.length<=666:=by
  by_cases i:64<o.aP.length
  ·simp[iB,i]
  ·have:=LS k oM
   simpa[iB,i]using this
 refine PC.ok (DA (s.ah (g.then h)).oE (r.row (bytes:=1) dC (by unfold aK;omega)) r.aB) ?_;rintro _ N ⟨_,rfl,O,P,Q,z,rfl,A,B,C⟩;refine⟨_,_,_,_,rfl,Ok.mk ⟨_,_,_,z,rfl,A,(g.then h).then B,λf j=>?_⟩⟩;have:=C f j;have:=(g.then h).size;omega
def QC{b:List j}(d:b.length=a)(c:Nat):(b.take a).drop c=b.drop c:=by rw[Qz oM]
def Qc{D:an}{no:Int}(P:Laid b)(Q:aN b a f D)(hn:aH no):
  Calls XP 168 #[ZQ a,XH no] b (Ok λC g=>∃p q r G,C= .tuple #[.slice p q r,XH ((bQ (D.read (cx (aA no))).1).2:Int)]/\
   aO uH 63 G g p q r (bQ (D.read (cx (aA no))).1).1/\ai b g/\(∀d,G d->b.heap.size<=d)/\(bQ (D.read (cx (aA no))).1).1.length<=262144):=by
 refine yE (PC.ok (iY P hn) ?_);rintro _ w1 ⟨rfl,v⟩;refine⟨_,rfl,PC.ok (wP (Q.ah v)) ?_⟩;rintro _ s ⟨_,rfl,a4,R,c2,F2,rfl,n,E,c3⟩;have S:=HI Q.ok (cx (aA no));have F:(D.read (cx (aA no))).2≠0->(D.read (cx (aA no))).1=[]:=by
  unfold an.read;split
  ·intro _;rfl
  ·split
   ·intro _;rfl
   ·intro h;exact absurd rfl h
 generalize D.read (cx (aA no))=rd at n S F;obtain⟨e,er⟩:=rd;simp only at n S F⊢;refine⟨_,_,_,_,rfl,al.dB (λm=>?_) (λhe=>?_)⟩
 ·rw[F m,IC]
  exact Ok.mk ⟨none,0,0,λ_=>False,rfl,aO.nil s,v.then E,λ_ h=>h.elim,sM⟩
 have b2:=n.len dC;have b3:=n.jT;have a9:Row fv 1 s F2 a4 R e:=n.row dC (by unfold aK;omega);refine⟨λT w y z H g=>∃(c:Nat) (j:List aj) (G:Nat->Prop),H=c/\c<=e.length/\T=e.length-c/\bQ e=(j++(bQ (e.drop c)).1,c+(bQ (e.drop c)).2)/\j.length<=c/\
  aO uH 63 G g w y z j/\ai s g/\∀d,G d->s.heap.size<=d,⟨_,0,[],λ_=>False,rfl,Qj _,rfl,sM,sM,aO.nil s,ak.refl _,λ_ h=>h.elim⟩,?_⟩
 rintro T w y z _ _ U ⟨c,j,G,rfl,c5,rfl,V,c6,t,o,I⟩;refine⟨oM,oM,?_⟩;have W:ai b U:=(v.then E).then o;have X:=(a9.ah o).part (lo:=c) (hi:=R) (cap:=c2) oM (Q4 _) b3;rw[QC b2.symm]at X;rw[Qx];refine PC.ok (DB (P.ah W).oE X oM λd i=>by have:=n.aB d i;have:=o.size;omega) ?_;rintro _ J ⟨b0,n4,c4,F4,rfl,b4,A,c8⟩;have k:¬((bk (e.drop c)).no=0/\(bk (e.drop c)).kind=1/\(iZ (bk (e.drop c)).body).2=0)->∀g,ai J g->
   Ok (λC g=>∃p q r G,C= .tuple #[.slice p q r,XH ((bQ e).2:Int)]/\aO uH 63 G g p q r (bQ e).1/\ai b g/\(∀d,G d->b.heap.size<=d)/\(bQ e).1.length<=262144) (.returned (.tuple #[.slice w y z,XH (c:Int)])) g:=by
  intro h g Y;rw[V,BH h];refine Ok.mk ⟨w,y,z,G,sM,by simpa using(t.ah A).ah Y,(W.then A).then Y,λd i=>?_,by simp;omega⟩;have:=I d i;have:=(v.then E).size;omega
 refine⟨_,_,_,_,_,_,rfl,PA.mk λw5 k5 s5 g5=>?_⟩;refine storeAll [XH (bk (e.drop c)).kind,.slice b0 n4 c4] g5 rfl λK k6 s6 Z=>?_;have u:ai J K:=k5.new k6 λd i=>.inr oM;refine al.dB (λm=>k (λh=>m h.1) K u) (λa0=>?_);refine⟨_,ae Z rfl,al.dB (λm=>k (λh=>m h.2.1) K u) (λb1=>?_)⟩;obtain⟨b5,h9,c9⟩:=uK a0;rw[XZ]at b5;have a1:=b4.ah u;refine⟨_,_,_,ae Z rfl,PC.ok (M_ (a1.row (bytes:=1) dC (by unfold aK;omega)) a1.aB) ?_⟩;rintro _ w7 ⟨a7,n7,c7,F7,rfl,L,k7,a3⟩;obtain⟨M,a5⟩:=QD (bk (e.drop c)).body;generalize N:iZ (bk (e.drop c)).body=b6 at L M a5;obtain⟨x,xe⟩:=b6;simp only at L M a5;refine⟨_,_,_,_,_,_,_,_,_,_,_,_,_,rfl,PA.mk λw8 k8 s8 g8=>?_⟩;refine storeAll (aC x a7 n7 c7) g8 rfl λB k9 s9 l=>?_;have a6:ai w7 B:=k8.new k9 λd i=>.inr oM;have a8:ai J B:=(u.then k7).then a6;refine al.dB (λm=>k (λh=>m (by have:=h.2.2;rw[N]at this;exact this)) B a8) (λb7=>?_);refine⟨_,_,_,_,_,_,_,_,_,_,_,_,ae l rfl,ae l rfl,ae l rfl,ae l rfl,ae l rfl,ae l rfl,ae l rfl,ae l rfl,ae l rfl,ae l rfl,?_⟩;have O:ai U B:=A.then a8;have b8:=t.ah O;have a2:=L.ah a6;have d0:=(A.then u).size;refine Mo b8 IV (x:=x) (D:=F7) ⟨a7,n7,c7,F7,rfl,a2,λ_ h=>h,M,by unfold aK;omega⟩ (λd i=>⟨a2.aB d i,λhc=>?_⟩) (by unfold aK;omega) (by unfold maxLen;omega) λa' c' d1 F' b9 c0 c1 _=>?_
 ·have h1:=t.aB d (t.self d hc)
  have h2:=a3 d i;omega
 refine⟨_,_,_,rfl,_,?_,c+(bk (e.drop c)).n,j++[x],F',?_,oM,rfl,?_,by simp;omega,b9,?_,?_⟩
 ·omega
 ·rw[wrap_i64 (by unfold aH;omega)];omega
 ·rw[V,ID ⟨a0,b1,by rw[N];exact b7⟩,N,List.drop_drop]
  simp only[XQ,List.cons_append,List.nil_append,Nat.add_assoc]
 ·exact(o.then O).new c0 λd i=>.inr (I d (t.self d i))
 ·intro d i
  have hz:=(o.then O).size;have d2:=o.size;rcases c1 d i with h|h|h
  ·exact I d h
  ·have:=a3 d h;omega
  ·omega
end Go.Proofs.YtjgjkeponbeekaaGreatDoor
namespace Go.Proofs.YtjgjkeponbeekaaGreatDoor
open Go.ar
variable{n:Array Value}{z:FuncId}{e:Int}{d5:Int×an}{t:List Int}{a c:Nat}{f:Nat->Prop}{d:Option Addr}{b:World}
def bC{D:Nat->Prop}(h:Row aJ 8 b D d a t)(i:∀e,D e->e<b.heap.size):
  Calls XP 92 #[.slice d a c] b (Ok (py aJ 3 b t)):=by
 have y:=h.len;have f:=h.dN;refine nG (jJ tQ.under ⟨_,rfl,al.mk (λg=>?_) (λg=>PA.mk λl j z m=>?_)⟩)
 ·have:t=[]:=by
   cases d with
   |none=>
    cases t with
    |nil=>rfl
    |cons n A=>obtain⟨e,o,B,p,_⟩:=h.el 0 n rfl;cases p
   |some q=>cases g
  subst this;exact Ok.mk ⟨none,0,0,λ_=>False,rfl,aO.nil b,ak.refl _,λ_ h=>h.elim⟩
 ·cases d with
  |none=>cases g
  |some q=>
   have r:aO aJ 3 (·=b.heap.size) l (ZX b.heap.size) 0 0 []:=
    ⟨⟨[],λ_=>False,Own.zz (cur:= #[]) m rfl (Qj _),rfl,λ_ h=>h.elim⟩,λe f=>by simpa[aF]using f.symm,λe f=>oM⟩
   refine kh r tQ (D:=D) (h.ah j) (λe f=>⟨by have:=i e f;omega,by have:=i e f;simp only[aF];intro s;cases s;omega⟩) (by simp;omega) (by unfold aK at f;unfold maxLen;simp;omega) λk u C E v w _ x=>?_;refine⟨_,_,_,rfl,Ok.mk ⟨k,_,u,λe=>aF k=some e,rfl,by have h:=v.alone;rw[List.nil_append]at h;exact h,j.new w λe f=>.inr ?_,λe f=>?_⟩⟩
   ·simp only[aF,Q1]at f;omega
   ·rcases x e f with h|h<;>omega
def ia(a:Int)(b:ByteArray):Int:=if(lG b).2 then max a ((lG b).1+1)else a
def xH(a:List ByteArray):Int:=a.foldl ia 1
def Bd(D:an):Int:=xH D.list
def DJ(a:ByteArray):0<=(lG a).1/\(lG a).1<1000000000000:=by
 unfold lG;split
 ·rename_i c b
  have:=(Bn b).2;simp;omega
 ·simp
def FM(b:1<=e/\e<=1000000000000)(a:ByteArray):1<=ia e a/\ia e a<=1000000000000:=by
 have:=DJ a;unfold ia;split<;>omega
def HP:∀(b:List ByteArray) (a:Int),(1<=a/\a<=1000000000000)->1<=b.foldl ia a/\b.foldl ia a<=1000000000000
 |[],a,c=>c
 |s::b,a,c=>HP b _ (FM c s)
def DK(a:List ByteArray):1<=xH a/\xH a<=1000000000000:=HP a 1 oM
def HQ{D:an}(t:Laid b)(j:aN b a f D):
  Calls XP 108 #[ZQ a] b (Ok λu g=>u= XH (Bd D)/\ai b g):=by
 refine Cm (PC.ok (wQ j) ?_);rintro _ k ⟨v,e,A,G,rfl,l,m,B⟩;have C:D.list.length<=64:=by rw[ny];exact j.ok.many
 have E:=l.len dC;have w:Row MU 16 k G v e D.list:=l.row dC (by unfold aK;omega);refine⟨_,_,_,rfl,λn o p g=>∃c:Nat,p=c/\c<=e/\n=e-c/\o=xH (D.list.take c)/\ai k g,⟨_,0,rfl,Qj _,rfl,rfl,ak.refl _⟩,?_⟩;rintro n o p _ F ⟨c,rfl,H,rfl,rfl,d⟩;refine al.dec (λI=>?_) (λJ=>?_)
 ·obtain⟨x,h,q,rfl,y,_,z⟩:=(w.ah d).l_ (i:=c) oM
  refine⟨x,h,rfl,oM,oM,_,z,PC.ok (Ag (t.ah (m.then d))) ?_⟩;rintro _ K ⟨rfl,r⟩;have L:=DJ q;have M:=DK (D.list.take c);have s:xH (D.list.take (c+1))=ia (xH (D.list.take c)) q:=by
   unfold xH;rw[Qw,y,List.foldl_append];rfl
  refine⟨_,_,rfl,al.mk (λi=>⟨_,?_,c+1,aq oM,oM,rfl,?_,d.then r⟩) (λi=>⟨_,?_,c+1,aq oM,oM,rfl,?_,d.then r⟩)⟩
  ·omega
  ·rw[s,wrap_i64 (by unfold aH;omega)]
   unfold ia;rw[if_pos i];split<;>omega
  ·omega
  ·rw[s];unfold ia;rw[if_neg (by simp[i])]
 ·obtain rfl:c=e:=oM
  rw[Qz oM];exact Ok.mk ⟨rfl,m.then d⟩
structure ej where
 size:Int
 bH:List Int
 bytes:Int
 next:Int
structure iA (w:World) (p q:Nat) (G:Nat->Prop) (V:ej):Prop where
 body:∃a n c E,w.heap[q]? =some (.cells #[ZQ p,XH V.size,.slice a n c,XH V.bytes,XH V.next] 209 (0,0))/\aO aJ 3 E w a n c V.bH/\∀b,E b->G b/\b≠q
 self:G q
 aB:∀b,G b->b<w.heap.size
 many:V.bH.length<=64
 AH:aH V.next
section
variable {w0 w w1 w':World} {p q:Nat} {D D':an} {V V':ej} {X Y G S:Nat->Prop}
def iA.af(b:iA w p q G V)(c:ak S w w')(e:∀a,G a->¬S a):iA w' p q G V:=by
 obtain⟨g,h,i,j,k,l,f⟩:=b.body;exact⟨⟨g,h,i,j,c.get k (e q b.self),l.af c λa d=>e a (f a d).1,f⟩,b.self,λa d=>Qk (b.aB a d) c.size,b.many,b.AH⟩
def iA.ah(a:iA w p q G V)(b:ai w w'):iA w' p q G V:=a.af b λ_ _ a=>a
def bX(w0 w:World)(p q:Nat)(V:ej)(D:an)(X:Nat->Prop):Prop:=∃G,aR w0 w p D (λa=>X a\/G a)/\iA w p q G V/\∀a,G a->w0.heap.size<=a/\¬X a
def bX.gr(a:bX w0 w p q V D X):ai w0 w:=by obtain⟨G,b,c,d⟩:=a;exact b.gr
def bX.ok(a:bX w0 w p q V D X):D.Ok:=by obtain⟨G,b,c,d⟩:=a;exact b.ok
def bX.many(a:bX w0 w p q V D X):V.bH.length<=64:=by obtain⟨G,c,b,d⟩:=a;exact b.many
def bX.AH(a:bX w0 w p q V D X):aH V.next:=by obtain⟨G,c,b,d⟩:=a;exact b.AH
def bX.aB(b:bX w0 w p q V D X):∀a,X a->a<w.heap.size:=by obtain⟨G,⟨e,f,g,h,c⟩,i,j⟩:=b;exact λa d=>c a (.inl d)
def bX.WK(b:bX w0 w p q V D X):q<w.heap.size/\w0.heap.size<=q/\¬X q:=by obtain⟨G,d,a,c⟩:=b;exact⟨a.aB q a.self,c q a.self⟩
def bX.uM(a:bX w0 w p q V D X):aR w0 w p D X:=by obtain⟨G,b,d,e⟩:=a;exact b.mono λf c=>.inl c
def bX.ah(b:bX w0 w p q V D X)(a:ai w w'):bX w0 w' p q V D X:=by
 obtain⟨G,c,d,e⟩:=b;exact⟨G,c.ah a,d.ah a,e⟩
def bX.mono(e:bX w0 w p q V D X)(c:∀a,Y a->X a):bX w0 w p q V D Y:=by
 obtain⟨G,f,g,d⟩:=e;exact⟨G,f.mono λa b=>b.imp (c a) id,g,λa b=>⟨(d a b).1,λh=>(d a b).2 (c a h)⟩⟩
def bX.add(g:bX w0 w p q V D X)(c:ai w w')(d:∀a,Y a->w.heap.size<=a/\a<w'.heap.size):bX w0 w' p q V D (λa=>X a\/Y a):=by
 obtain⟨G,h,e,f⟩:=g;refine⟨G,(h.add c d).mono λa b=>?_,e.ah c,λa b=>⟨(f a b).1,λi=>i.elim (f a b).2 λj=>by have:=e.aB a b;have:=(d a j).1;omega⟩⟩;rcases b with(b|b)|b
 ·exact .inl (.inl b)
 ·exact .inr b
 ·exact .inl (.inr b)
def bX.other(h:bX w0 w p q V D X)(c:ak Y w w')(d:∀a,Y a->X a/\w0.heap.size<=a):bX w0 w' p q V D X:=by
 obtain⟨G,⟨i,j,k,f,l⟩,m,g⟩:=h;exact⟨G,⟨i,j.af c λa b e=>(f a b).2 (.inl (d a e).1),k.new c λa b=>.inr (d a b).2,f,λa b=>Qk (l a b) c.size⟩,m.af c λa b e=>(g a b).2 (d a e).1,g⟩
def bX.on(f:bX w0 w p q V D X)(g:∀c,(∀a,X a->c a)->aR w0 w p D c->Calls XP z n w (Ok (mS w0 w p c d5))):Calls XP z n w (Ok λd w'=>d= XH d5.1/\bX w0 w' p q V d5.2 X/\ak (dj X) w w'):=by
 obtain⟨G,h,i,j⟩:=f;refine Calls.ok (g _ (λa b=>.inl b) h) ?_;rintro d w' ⟨k,l,e⟩;exact⟨k,⟨G,l,i.af e λa b m=>m (.inr b),j⟩,e.mono λa _ b o=>b (.inl o)⟩
def ej.last(V:ej):ByteArray:=cx (aA (V.bH.getLast?.getD 0))
def iA.row(f:iA w p q G V):∃b a d c,w.heap[q]? =some (.cells #[ZQ p,XH V.size,.slice b a d,XH V.bytes,XH V.next] 209 (0,0))/\Row aJ 8 w c b a V.bH/\(∀e,c e->G e/\e≠q)/\a=V.bH.length:=by
 obtain⟨b,a,d,c,h,g,i⟩:=f.body;have:=f.many;exact⟨b,a,d,c,h,g.row dC (by unfold aK;omega),i,g.len dC⟩
def HR(f:Laid w)(d:iA w p q G V)(g:V.bH≠[]):Calls XP 206 #[ZQ q] w (Ok λh w'=>h= .string V.last/\ai w w'):=by
 obtain⟨v,b,x,y,i,j,z,k⟩:=d.row;have A:0<V.bH.length:=List.length_pos_iff.2 g;have B:=d.many;refine ue λw1 l=>?_;have a:ai w w1:=l.af;have e:=a.get i id;have m:IntKind.wrap .i64 ((b:Int)-1)=((b-1:Nat):Int):=by rw[wrap_i64 (by unfold aH;omega)];omega
 obtain⟨n,c,o,rfl,r,s,t⟩:=(j.ah a).l_ (i:=b-1) oM;refine⟨q,0,rfl,_,_,_,ae e rfl,q,0,rfl,_,_,_,ae e rfl,n,c,rfl,?_⟩;rw[m];refine⟨oM,oM,o,t,PC.ok (iY (f.ah a) s) ?_⟩;rintro _ C ⟨rfl,u⟩;refine⟨_,rfl,Ok.mk ⟨?_,a.then u⟩⟩;unfold ej.last;rw[List.getLast?_eq_getElem?,<-k,r];rfl
def HS(k:Laid w0)(h:bX w0 w p q V D X)(l:V.bH≠[]):Calls XP 135 #[ZQ q] w (Ok λm w'=>m= XH (D.sync V.last).1/\bX w0 w' p q V (D.sync V.last).2 X/\ak (dj X) w w'):=by
 refine ub λw1 n=>?_;have e:ai w w1:=n.af;have o:=h.ah e;obtain⟨G,r,a,i⟩:=o;obtain⟨z,A,B,C,s,E,F,j⟩:=a.row;have H:=i q a.self;have I:=a.aB q a.self;refine⟨λc=>c≠q/\¬X c,q,0,rfl,λt=>t.1 rfl,_,ae s rfl,PC.ok (HR (k.ah (h.gr.then e)) a l) ?_⟩;rintro _ J ⟨rfl,d⟩;have u:=a.ah d;have v:=r.ah d;refine⟨_,rfl,d.af,PC.ok v.sync ?_⟩;rintro _ K ⟨rfl,x,f⟩;refine⟨_,rfl,f.mono λc _ b=>⟨λy=>b (.inr (y▸a.self)),λg=>b (.inl g)⟩,Ok.mk ⟨rfl,⟨G,x,u.af f λc b j=>j (.inr b),i⟩,?_⟩⟩;exact(ai.af (e.then d)).then (f.mono λc _ b g=>b (.inl g))
def Fc(a:iA w p q G V):Calls XP 145 #[ZQ q] w (Ok (py aJ 3 w V.bH)):=by
 obtain⟨k,l,m,n,c,d,e,o⟩:=a.row;refine oP ⟨q,0,rfl,_,_,_,ae c rfl,PC.ok (bC d λb f=>a.aB b (e b f).1) ?_⟩;rintro _ w1 ⟨r,s,t,g,rfl,h,i,j⟩;exact⟨_,_,_,rfl,Ok.mk ⟨_,_,_,g,rfl,h,i,j⟩⟩
def Pg(a:iA w p q G V):Calls XP 144 #[ZQ q] w (Ok λb w'=>b= XH V.next/\w=w'):=by
 obtain⟨d,e,f,g,c,h,i,j⟩:=a.row;exact ud ⟨q,0,rfl,_,ae c rfl,Ok.mk ⟨rfl,rfl⟩⟩
end
end Go.Proofs.YtjgjkeponbeekaaGreatDoor

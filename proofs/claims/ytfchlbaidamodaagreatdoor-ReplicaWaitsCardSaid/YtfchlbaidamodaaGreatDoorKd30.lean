import Derived.Test.YtfchlbaidamodaaGreatDoorKd29
set_option linter.all false
set_option maxRecDepth 20000
namespace Go.Proofs.YtfchlbaidamodaaGreatDoor
open Go.ax
variable{B U e m:Int}{b4:List du}{g5:List ep}{Q X:Operand}{d p:Option Addr}{b8 v:Value}{b:World}{C:aR}{b2:bD}{f3:ve}
theorem Sn :(do eqGuard .neq 39 Q X (.agg #[XG e,XG m]) (.agg #[XG B,XG U]);binOp .neq 39 (.agg #[XG e,XG m]) (.agg #[XG B,XG U]):Sem Value).run ZX b= .ok (.bool (!(e==B&&m==U))) b:=by
 have a:=GN (x:=Q) (y:=X) (a:=e) (b:=m) (c:=B) (d:=U) (w:=b);rw [Sem.run_bind,run_eqGuard_agg b .eql _ Q X _ _ kR,Result.andThen_ok,run_eql_struct]at a;rw [Sem.run_bind,run_eqGuard_agg b .neq _ Q X _ _ kR,Result.andThen_ok,run_neq_struct];generalize(Op.equalIn 10000 39 (.agg #[XG e,XG m]) (.agg #[XG B,XG U])).run ZX b=c at a⊢
 cases c with
 |ok d f=>simp only [Result.andThen_ok,Result.ok.injEq,Value.bool.injEq]at a⊢;obtain⟨rfl,rfl⟩:=a;exact⟨rfl,rfl⟩
 |_=>simp [Result.andThen]at a
theorem Wb (b:ep) (c:World):(do eqGuard .neq 268 Q X (.agg (bz b).toArray) (.agg (bz b).toArray);binOp .neq 268 (.agg (bz b).toArray) (.agg (bz b).toArray):Sem Value).run ZX c= .ok (.bool false) c:=by
 have f:Tryz.prog.underlying 268=some (.struct (Tryz.prog.fieldsOf 268)):=kR
 have d:Tryz.prog.underlying 3=some (.int .i64):=kR
 have a:(Tryz.prog.fieldsOf 268).toList.map (λe=>(e.name,e.type,e.offset))=[("Group",3,0),("Value",3,1),("Count",3,2)]:=kR
 rw [Sem.run_bind,run_eqGuard_agg c .neq _ Q X _ _ kR,Result.andThen_ok,run_neq_struct,run_equalIn_struct c 9999 _ _ _ f kR];generalize(Tryz.prog.fieldsOf 268).toList=g at a
 match g,a with
 |[e,u,v],a=>
  simp only [QY,List.map_nil,List.cons.injEq,Prod.mk.injEq,and_true]at a;obtain⟨⟨h,i,j⟩,⟨k,l,m⟩,n,o,p⟩:=a;have q:(isAgg 3).run ZX c= .ok false c:=dA _ _ _ kR ⟨_,d⟩ c;have r:=run_equalIn_int (P:=ZX) c 9998 3 .i64 .i64 b.group b.group d;have s:=run_equalIn_int (P:=ZX) c 9998 3 .i64 .i64 b.value b.value d;have t:=run_equalIn_int (P:=ZX) c 9998 3 .i64 .i64 b.count b.count d;unfold Op.eqFields Op.eqFields Op.eqFields Op.eqFields;rw [h,i,j,k,l,m,n,o,p];simp [part,q,r,s,t,bz]
 |[],a=>simp at a
 |[_],a=>simp at a
 |[_,_],a=>simp at a
 |_::_::_::_::_,a=>simp at a
section
variable {w w':World} {D E:Nat->Prop} {a b:Option Addr} {n m c d:Nat}
theorem EO (g:Row fL 32 w D a n b4) (j:Row fL 32 w E b m b4):Calls ZX 159 #[.slice a n c,.slice b m d] w (Ok λv w'=>v= .bool true/\ai w w'):=by
 have H:=g.len;have I:=j.len;have x:=g.d_;unfold aQ at x;refine Aw (al.dw (λf=>absurd oM f) (λ_=>?_));refine⟨λk i w'=>∃e:Nat,i=e/\e<=n/\k=n-e/\ai w w',⟨_,0,rfl,Qj _,rfl,aj.refl w⟩,?_⟩;rintro k i _ J ⟨e,rfl,K,rfl,l⟩;refine al.dec (λL y z=>?_) (λ_=>Ok.mk ⟨rfl,l⟩);have h:ai w y:=l.then z.keep;obtain⟨o,p,M,N,rfl,_,_,A,q,O,P,Q,rfl,B,_⟩:=(g.af h).sS (i:=e) oM;obtain⟨r,s,R,S,rfl,_,_,t,u,T,U,V,rfl,C,_⟩:=(j.af h).sS (i:=e) oM;rw [A]at t;cases t
 refine⟨o,p,rfl,oM,oM,_,q 0 dC,r,s,rfl,oM,oM,_,u 0 dC,al.dw (λf=>absurd rfl f) (λ_=>?_)⟩;refine⟨o,p,rfl,oM,oM,_,_,_,q 1 dC,r,s,rfl,oM,oM,_,_,_,u 1 dC,PC.ok (jM B C) ?_⟩;rintro _ W ⟨rfl,F⟩;exact⟨_,rfl,al.not (al.dec (λ_=>⟨_,oM,e+1,an oM,oM,rfl,h.then F.keep⟩) (λf=>absurd rfl f))⟩
theorem EP {s:mV} (i:Row fL 32 w D a n s.cells) (j:Row fL 32 w E b m s.cells):Calls ZX 97 #[.agg #[XG s.version,.slice a n c],.agg #[XG s.version,.slice b m d]] w (Ok λk w'=>k= .bool true/\ai w w'):=by
 refine Ao (PA.mk λq f r l=>PA.mk λt e u g=>?_);have h:=e.get l id;refine⟨_,ae h rfl,_,ae g rfl,al.dX (λ_=>?_) (λo=>absurd rfl o)⟩;refine⟨_,_,_,ae h rfl,_,_,_,ae g rfl,PC.ok (EO (i.af (f.then e)) (j.af (f.then e))) ?_⟩;rintro _ v ⟨rfl,p⟩;exact⟨_,rfl,Ok.mk ⟨rfl,(f.then e).then p⟩⟩
theorem AM {F:List df} (q:Row Ab 120 w D a n F) (H:Row Ab 120 w E b m F):Calls ZX 98 #[.slice a n c,.slice b m d] w (Ok λO w'=>O= .bool true/\ai w w'):=by
 have Y:=q.len;have Z:=H.len;have P:=q.d_;unfold aQ at P;refine vM (al.dw (λh=>absurd oM h) (λ_=>?_));refine⟨λI i w'=>∃f:Nat,i=f/\f<=n/\I=n-f/\ai w w',⟨_,0,rfl,Qj _,rfl,aj.refl w⟩,?_⟩;rintro I i _ w1 ⟨f,rfl,hj,rfl,J⟩;refine al.dec (λh1 r Q=>?_) (λ_=>Ok.mk ⟨rfl,J⟩);have s:ai w r:=J.then Q.keep;obtain⟨j,k,l,es,rfl,R,_,S,K,t,u,v,rfl,T,_⟩:=(q.af s).sS (i:=f) oM;obtain⟨o,p,a0,fs,rfl,U,_,L,M,x,y,z,rfl,V,_⟩:=(H.af s).sS (i:=f) oM;rw [S]at L;cases L
 have W:∀e,e<10->r.cell? ⟨j,k+f*13+e,none⟩=(aE l.ev t u v)[e]? :=λe g=>(K e (show e<13 by omega)).trans (XW (show e<10 from g));have X:∀e,e<10->r.cell? ⟨o,p+f*13+e,none⟩=(aE l.ev x y z)[e]? :=λe g=>(M e (show e<13 by omega)).trans (XW (show e<10 from g));refine⟨j,k,rfl,oM,oM,br (es:=aE l.ev t u v) (k:=10) (bg _ _ _ _) rfl (λe g=>by rw [Qx];exact W e g) ⟨o,p,rfl,oM,oM,br (es:=aE l.ev x y z) (k:=10) (bg _ _ _ _) rfl (λe g=>by rw [Qx];exact X e g) (PC.ok (mJ T V) ?_)⟩⟩;rintro _ N ⟨rfl,A⟩;have B:∀e,e<13->N.cell? ⟨j,k+f*13+e,none⟩=(iG l t u v)[e]? :=λe g=>(A.cell (a:=⟨j,k+f*13+e,none⟩) R id).trans (K e g);have C:∀e,e<13->N.cell? ⟨o,p+f*13+e,none⟩=(iG l x y z)[e]? :=λe g=>(A.cell (a:=⟨o,p+f*13+e,none⟩) U id).trans (M e g);refine⟨_,rfl,al.not (al.dec (λ_=>?_) (λh=>absurd rfl h))⟩;refine⟨j,k,rfl,oM,oM,_,B 10 dC,o,p,rfl,oM,oM,_,C 10 dC,al.not (al.mk (λ_=>?_) (λh=>by simp at h))⟩;refine⟨j,k,rfl,oM,oM,_,_,B 11 dC,B 12 dC,o,p,rfl,oM,oM,_,_,C 11 dC,C 12 dC,_,λw'=>Sn,al.mk (λh=>by simp at h) (λ_=>?_)⟩;exact⟨_,oM,f+1,an oM,oM,rfl,s.then A⟩
theorem HO (h:Row IN 24 w D a n g5) (o:Row IN 24 w E b m g5):Calls ZX 99 #[.slice a n c,.slice b m d] w (Ok λr w'=>r= .bool true/\ai w w'):=by
 have C:=h.len;have F:=o.len;have s:=h.d_;unfold aQ at s;refine BT (al.dw (λj=>absurd oM j) (λ_=>?_));refine⟨λp i w'=>∃e:Nat,i=e/\e<=n/\p=n-e/\ai w w',⟨_,0,rfl,Qj _,rfl,aj.refl w⟩,?_⟩;rintro p i _ H ⟨e,rfl,I,rfl,g⟩;refine al.dec (λJ=>?_) (λ_=>Ok.mk ⟨rfl,g⟩);obtain⟨t,u,f,K,rfl,L,_,v,x,rfl,_⟩:=(h.af g).sS (i:=e) oM;obtain⟨y,z,M,N,rfl,O,_,q,A,rfl,_⟩:=(o.af g).sS (i:=e) oM;rw [v]at q;cases q
 refine⟨t,u,rfl,oM,oM,br (es:=bz f) (k:=3) (PM f) rfl (λk l=>by rw [Qx];exact x k l) ⟨y,z,rfl,oM,oM,br (es:=bz f) (k:=3) (PM f) rfl (λk l=>by rw [Qx];exact A k l) ⟨false,λm=>Wb f _,λP B=>al.mk (λj=>by cases j) λ_=>?_⟩⟩⟩;exact⟨_,oM,e+1,an oM,oM,rfl,g.then B.keep⟩
theorem CM {m n:World} (o:ju m f3 v w) (p:ju n f3 b8 w):Calls ZX 47 #[v,b8] w (Ok λb8 w'=>b8= .bool true/\ai w w'):=by
 obtain⟨B,C,E,F,H,I,J,K,L,G,rfl,q,r,s,M⟩:=o;obtain⟨N,tn,O,P,Q,R,S,T,U,V,rfl,t,u,x,W⟩:=p;refine xV (PA.mk λX y Y z=>PA.mk λA h Z c=>?_);have d:=h.get z id;have a:ai w A:=y.then h;refine⟨_,ae d rfl,_,ae c rfl,al.dX (λ_=>?_) (λf=>absurd rfl f)⟩;refine⟨_,_,ae d rfl,ae d rfl,_,_,ae c rfl,ae c rfl,aH.mk GN ⟨_,rfl,al.mk (λ_=>?_) (λf=>by simp at f)⟩⟩;refine⟨_,_,_,_,ae d rfl,ae d rfl,_,_,_,_,ae c rfl,ae c rfl,PC.ok (EP (s:=f3.st) (q.af a) (t.af a)) ?_⟩;rintro _ w5 ⟨rfl,b⟩;have i:=b.get d id;have j:=b.get c id;refine⟨_,rfl,al.tt rfl ⟨_,_,_,ae i rfl,_,_,_,ae j rfl,PC.ok (AM (r.af (a.then b)) (u.af (a.then b))) ?_⟩⟩;rintro _ w6 ⟨rfl,e⟩;have k:=e.get i id;have l:=e.get j id;refine⟨_,rfl,al.tt rfl ⟨_,_,_,ae k rfl,_,_,_,ae l rfl,PC.ok (HO (s.af ((a.then b).then e)) (x.af ((a.then b).then e))) ?_⟩⟩;rintro _ w7 ⟨rfl,g⟩;exact⟨_,rfl,al.tt rfl ⟨_,ae (g.get k id) rfl,_,ae (g.get l id) rfl,Ok.mk ⟨sM,((a.then b).then e).then g⟩⟩⟩
end
section
variable {w w':World} {D E:Nat->Prop} {a b:Option Addr} {n m c:Nat}
theorem ER (h:Row gC 32 w D a n b2.bH):Calls ZX 77 #[.agg (eg b2 a n c).toArray] w (Ok λI w'=>∃q y r f,I= .agg (eg b2 q y r).toArray/\aV gC 125 f w' q y r b2.bH/\ai w w'/\∀b,f b->w.heap.size<=b):=by
 have Y:=h.len;have d:=h.d_;unfold aQ at d;refine Al (PA.mk λz J Z K=>PA.mk λs A s7 L=>?_);have M:=A.get K id;have B:=J.then A;refine⟨λC l e m i w'=>i=(e:Int)/\e<=n/\C=n-e/\∃f,aV gC 125 f w' l e m (b2.bH.take e)/\ai s w'/\∀b,f b->s.heap.size<=b,
  ⟨_,rfl,Qj _,rfl,λ_=>False,by simpa using aV.nil s,aj.refl _,λ_ h=>h.elim⟩,?_⟩
 rintro C l e m i _ w1 ⟨rfl,hj,rfl,f,o,g,j⟩;have t:=g.get M id;have E:=B.then g;have F:(b2.bH.take e).length=e:=by simp;omega
 refine⟨_,_,_,ae t rfl,al.dec (λN=>?_) (λN=>?_)⟩
 ·obtain⟨b,u,x,es,rfl,_,_,O,p,rfl,P⟩:=(h.af E).sS (i:=e) oM
  refine⟨_,_,_,ae t rfl,b,u,rfl,oM,oM,_,_,_,_,p 0 dC,p 1 dC,p 2 dC,p 3 dC,IL o Ms (x:=x) (D:=λ_=>False) ⟨rfl,P⟩ (λ_ h=>h.elim) (by rw [F];unfold aQ;omega) (by rw [F];unfold maxLen;omega) λq r Q R S T U _=>?_⟩;refine⟨_,_,_,rfl,n-(e+1),oM,an oM,oM,rfl,R,?_,g.new T λb d=>.inr (j b (o.self b d)),?_⟩
  ·rw [Qw,O];exact S
  ·intro b d
   have:=g.size;rcases U b d with h|h|h
   ·exact j b h
   ·exact h.elim
   ·omega
 ·obtain rfl:e=n:=oM
  rw [Qz oM]at o;have V:=g.get L id;refine PS.mk t sM λw2 v s2 W=>aw (cs:=eg b2 l e m) (fD _ _ _ _) W (aD (fD _ _ _ _) (v.get V oM) rfl λQ H s3 X=>aw (fD _ _ _ _) X (Ok.mk ⟨l,e,m,f,rfl,?_,?_,λb d=>by have:=j b d;have:=B.size;omega⟩))
  ·exact(o.keep v λb d k=>by have k:b=w.heap.size:=k;have:=j b d;omega).keep H λb d k=>by have k:b=z.heap.size:=k;have:=j b d;omega
  ·exact(E.new v λb d=>.inr (by have d:b=w.heap.size:=d;omega)).new H λb d=>.inr (by have d:b=z.heap.size:=d;omega)
theorem HP {tn tc W pc:Nat} (q:bh w D C d tn p W):
  Calls ZX 39 #[.agg #[.slice d tn tc,.slice p W pc]] w (Ok λe0 w'=>∃J AW a3 K L a7 G,e0= .agg #[.slice J AW a3,.slice K L a7]/\bh w' G C J AW K L/\(∀b,G b->w.heap.size<=b/\b<w'.heap.size)/\ai w w'):=by
 have g8:=q.bd.len;have b3:=q.bd.d_;have g9:=q.Bk.len;have b4:=q.Bk.d_;refine BP (PA.mk λM k4 s4 g4=>PA.mk λi k5 s5 g5=>PA.mk λw6 k6 s6 g6=>?_);have b5:=k4.then k5;have d7:=b5.then k6;have gp:=k6.get (k5.get g4 id) id;have gr:=k6.get g5 id;have z6:=d7.size;refine⟨λm N w'=>∃g:Nat,N=g/\g<=tn/\m=tn-g/\aj (·=i.heap.size) w6 w'/\∃O P X Z,w'.heap[i.heap.size]? =some (.cells #[.slice O P X,.slice none 0 0] 25 (0,0))/\aV lv 130 Z w' O P X (C.types.take g)/\∀b,Z b->w6.heap.size<=b,
  ⟨_,0,rfl,Qj _,rfl,aj.refl _,none,0,0,λ_=>False,g6,aV.nil _,λ_ q=>q.elim⟩,?_⟩
 rintro m _ _ h ⟨g,rfl,hj,rfl,Q,O,P,X,Z,go,x,H⟩;have a4:ai w h:=d7.new Q λb c=>.inr (by have c:b=i.heap.size:=c;have:=b5.size;omega);have zk:=Q.size;have a0:=Q.get gp λe=>by have e:w.heap.size=i.heap.size:=e;omega
 refine⟨_,_,_,ae a0 rfl,al.dec (λj7=>?_) (λj8=>?_)⟩
 ·have h0:g<C.types.length:=oM
  have b6:C.types[g]? =some C.types[g]:=Qq h0;generalize C.types[g]=r at b6;obtain⟨b,B,es,ha,c,j9,e1,fa,fn,fc,rfl,b8⟩:=(q.bd.af a4).el g r b6;have c0:=e1 0 dC;have h2:lv.k=1:=rfl;rw [h2,Nat.mul_one]at c0;have h3:=b8.len;have b9:=b8.d_;refine PA.mk λk0 h4 k1 h6=>PS.mk h6 sM λa5 h7 k2 h8=>?_;have E:ai h a5:=h4.new h7 λb c=>.inr (by have c:b=h.heap.size:=c;omega);have e2:=E.get a0 id;have d9:=E.size;have e3:=a4.then E;refine⟨λm N w'=>∃l:Nat,N=l/\l<=fn/\m=fn-l/\aj (·=h.heap.size) a5 w'/\∃t u y v,w'.heap[h.heap.size]? =some (.cells #[.slice t u y] 130 (0,0))/\aV pT 123 v w' t u y (r.take l)/\∀b,v b->a5.heap.size<=b,
   ⟨_,0,rfl,Qj _,rfl,aj.refl _,none,0,0,λ_=>False,h8,aV.nil _,λ_ q=>q.elim⟩,?_⟩
  rintro m _ _ a6 ⟨l,rfl,hk,rfl,j,t,u,y,v,z,k,s⟩;have zx:=j.size;have e4:ai w a6:=e3.new j λb c=>.inr (by have c:b=h.heap.size:=c;have:=a4.size;omega);have b2:=j.get e2 λe=>by have e:w.heap.size=h.heap.size:=e;have:=aC a0;omega
  have b7:a6.cell? ⟨b,B+Int.toNat (g:Int),none⟩=some (.slice fa fn fc):=by
   rw [Qx];refine(j.cell (a:=⟨b,B+g,none⟩) (Qk c d9) λe=>by have e:b=h.heap.size:=e;omega).trans ((E.cell (a:=⟨b,B+g,none⟩) c id).trans ?_);exact c0
  refine⟨_,_,_,ae b2 rfl,b,B,ha,oM,oM,_,_,_,b7,al.dec (λe5=>?_) (λe6=>?_)⟩
  ·intro c1 h9
   have o:ai a6 c1:=h9.keep;have j6:=e4.then o;have e7:=o.get z id;have e8:=o.get b2 id;have f0:c1.cell? ⟨b,B+Int.toNat (g:Int),none⟩=some (.slice fa fn fc):=(o.cell (a:=⟨b,B+Int.toNat (g:Int),none⟩) (Qk (Qk c d9) zx) id).trans b7;have i0:l<r.length:=oM
   have c2:r[l]? =some r[l]:=Qq i0;generalize r[l]=I at c2;have f1:ai h c1:=(E.new j λb c=>.inr (by have c:b=h.heap.size:=c;omega)).then o;obtain⟨fb,fo,a8,rfl,-,-,c4,ya,yn,yc,rfl,c5,a9⟩:=(b8.af f1).el l I c2;have f3:=c5.len;have f4:=c5.d_;refine⟨λ_=>False,id,_,_,_,ae e7 rfl,_,_,_,ae e8 rfl,b,B,ha,oM,oM,_,_,_,f0,fb,fo,rfl,oM,oM,br (es:=eg I ya yn yc) (k:=4) (fD _ _ _ _) rfl (λr ht=>by rw [Qx];exact c4 r ht) (PC.ok (ER c5) ?_)⟩;rintro _ k3 ⟨a,n,cc,Fm,rfl,c6,e9,f2⟩;have f6:=c6.aF;refine⟨_,_,_,_,_,_,rfl,e9,PA.mk λf5 c7 k7 i1=>⟨c7,?_⟩⟩;have a1:ai a6 f5:=(o.then e9).then c7;have k8:=c6.len dC;have f7:Row gC 32 f5 Fm a n I.bH:=(c6.af c7).row dC (by rw [<-f3];exact f4);refine fh (c:=pT) (x:=I) (k.af a1) RX i1 (D:=Fm) ⟨a,n,cc,rfl,f7,a9⟩ (λb c=>⟨by have:=f6 b c;omega,λe=>by have:=k.aF b (k.self b e);have:=f2 b c;have:=o.size;omega⟩) (by rw [Qy];unfold aQ at*;omega) (by rw [Qy];unfold aQ at b9;unfold maxLen;omega) λR S i2 A b0 F T=>⟨_,_,_,rfl,?_⟩
   have c9:¬aI t=some h.heap.size:=λe=>by have:=s _ (k.self _ e);omega
   have k9:=a1.size;have i3:=F.size;have zd:=o.size;have f:∀b,A b->a5.heap.size<=b:=λb c=>by
    rcases T b c with Y|Y|Y
    ·exact s b Y
    ·have:=f2 b Y;omega
    ·omega
   refine PS.mk (F.get (a1.get z id) c9) sM λi4 U i5 d0=>⟨_,oM,l+1,an (by unfold aQ at b9;omega),oM,rfl,((j.af a1).new F λb c=>.inr (s b (k.self b c))).then U,R,u+1,S,A,d0,?_,f⟩
   rw [Qw,c2];exact b0.keep U λb c e=>by have e:b=h.heap.size:=e;have:=f b c;omega
  ·rw [Qz oM]at k
   have c3:=j.get (E.get go id) λe=>by have e:i.heap.size=h.heap.size:=e;have:=aC go;omega
   refine⟨_,_,_,ae c3 rfl,_,_,_,ae z rfl,PA.mk λi6 d1 l0 i7=>?_⟩;have b1:ai h i6:=(E.new j λb c=>.inr (by have c:b=h.heap.size:=c;omega)).then d1;refine fh (c:=lv) (x:=r) (x.af b1) NO i7 (D:=v) ⟨t,u,y,rfl,(k.af d1).row dC (by rw [<-h3];exact b9)⟩ (λb c=>⟨by have:=k.aF b c;omega,λe=>by have:=x.aF b (x.self b e);have:=s b c;omega⟩) (by rw [Qy];unfold aQ at*;omega) (by rw [Qy];unfold aQ at b3;unfold maxLen;omega) λR S l3 A f8 d2 T=>⟨_,_,_,rfl,?_⟩
   have i8:¬aI O=some i.heap.size:=λe=>by have:=H _ (x.self _ e);omega
   have l4:=b1.size;have l5:=d2.size;have f:∀b,A b->w6.heap.size<=b:=λb c=>by
    rcases T b c with Y|Y|Y
    ·exact H b Y
    ·have:=s b Y;omega
    ·omega
   refine PS.mk (d2.get (d1.get c3 id) i8) sM λl6 c8 l7 i9=>⟨_,oM,g+1,an (by unfold aQ at b3;omega),oM,rfl,((Q.af b1).new d2 λb c=>.inr (H b (x.self b c))).then c8,R,P+1,S,A,i9,?_,f⟩
   rw [Qw,b6];exact f8.keep c8 λb c e=>by have e:b=i.heap.size:=e;have:=f b c;omega
 ·rw [Qz oM]at x
  have f9:=x.aF;refine⟨λm N w'=>∃g:Nat,N=g/\g<=W/\m=W-g/\aj (·=i.heap.size) h w'/\∃t u y v,w'.heap[i.heap.size]? =some (.cells #[.slice O P X,.slice t u y] 25 (0,0))/\aV wH 128 v w' t u y (C.projs.take g)/\∀b,v b->h.heap.size<=b,
   ⟨_,0,rfl,Qj _,rfl,aj.refl _,none,0,0,λ_=>False,go,aV.nil _,λ_ q=>q.elim⟩,?_⟩
  rintro m _ _ d3 ⟨l,rfl,hk,rfl,j,t,u,y,v,z,k,s⟩;have zx:=j.size;have d4:ai w d3:=a4.new j λb c=>.inr (by have c:b=i.heap.size:=c;have:=b5.size;omega);have d8:=j.get a0 λe=>by have e:w.heap.size=i.heap.size:=e;omega
  refine⟨_,_,_,ae d8 rfl,al.dec (λe5=>?_) (λe6=>?_)⟩
  ·intro j0 j1
   have o:ai d3 j0:=j1.keep;have g0:=o.get z id;obtain⟨fb,fo,I,a8,rfl,-,-,j2,c4,rfl,a9⟩:=(q.Bk.af (d4.then o)).sS (i:=l) oM;have V:=λr (ht:r<5)=>c4 r ht;refine⟨λ_=>False,id,_,_,_,ae g0 rfl,_,_,_,ae (o.get d8 id) rfl,fb,fo,rfl,oM,oM,_,_,_,_,_,V 0 dC,V 1 dC,V 2 dC,V 3 dC,V 4 dC,PA.mk λj3 g1 l8 j4=>⟨g1,?_⟩⟩;have a2:ai d3 j3:=o.then g1;refine fh (c:=wH) (x:=I) (k.af a2) Mh j4 (D:=λ_=>False) ⟨rfl,a9⟩ (λb c=>c.elim) (by rw [Qy];unfold aQ at*;omega) (by rw [Qy];unfold aQ at b4;unfold maxLen;omega) λR S i2 A b0 F T=>⟨_,_,_,rfl,?_⟩
   have c9:¬aI t=some i.heap.size:=λe=>by have:=s _ (k.self _ e);omega
   have l9:=a2.size;have i3:=F.size;have zd:=o.size;have f:∀b,A b->h.heap.size<=b:=λb c=>by
    rcases T b c with Y|Y|Y
    ·exact s b Y
    ·exact Y.elim
    ·omega
   refine PS.mk (F.get (a2.get z id) c9) sM λi4 U i5 d0=>⟨_,oM,l+1,an (by unfold aQ at b4;omega),oM,rfl,((j.af a2).new F λb c=>.inr (s b (k.self b c))).then U,R,u+1,S,A,d0,?_,f⟩
   rw [Qw,j2];exact b0.keep U λb c e=>by have e:b=i.heap.size:=e;have:=f b c;omega
  ·rw [Qz oM]at k
   have g2:=k.aF;have g3:=j.get (Q.get gr λe=>by have e:M.heap.size=i.heap.size:=e;omega) λe=>by have e:M.heap.size=i.heap.size:=e;omega
   have h1:=x.keep j λb c e=>by have e:b=i.heap.size:=e;have:=H b c;omega
   refine⟨_,_,_,_,_,_,ae z rfl,ae z rfl,PS.mk g3 sM λm0 d5 m1 j5=>PS.mk j5 sM λm2 d6 m3 g7=>⟨_,_,_,_,_,_,ae g7 rfl,ae g7 rfl,Ok.mk ⟨_,_,_,_,_,_,λb=>Z b\/v b,rfl,⟨?_,?_⟩,?_,?_⟩⟩⟩
   ·exact(((h1.row (bytes:=24) dC (by rw [<-g8];exact b3)).keep (d5.then d6) λb c e=>by have e:b=M.heap.size:=e;have:=H b c;omega)).mono λb c=>.inl c
   ·exact(((k.row (bytes:=40) dC (by rw [<-g9];exact b4)).keep (d5.then d6) λb c e=>by have e:b=M.heap.size:=e;have:=s b c;omega)).mono λb c=>.inr c
   ·have z4:=k4.size
    rintro b (c|c)
    ·have:=H b c;have:=f9 b c;omega
    ·have:=s b c;have:=g2 b c;omega
   ·exact d4.new (d5.then d6) λb c=>.inr (by have c:b=M.heap.size:=c;have:=k4.size;omega)
theorem wN {c:cz} {tn u r v:Nat} (x:bh w D c.decl d tn p r):
  Calls ZX 13 #[lK c d tn u p r v] w (Ok λy w'=>∃a AW g e f h G,y=lK c a AW g e f h/\bh w' G c.decl a AW e f/\(∀b,G b->w.heap.size<=b/\b<w'.heap.size)/\ai w w'):=by
 refine BM (PA.mk λl s J z=>PA.mk λK m L A=>?_);have n:=m.get z id;refine⟨_,_,_,_,_,_,ae n rfl,ae n rfl,PC.ok (HP (x.af (s.then m))) ?_⟩;rintro _ M ⟨a,AW,g,e,f,h,G,rfl,B,o,k⟩;have N:=k.size;refine⟨_,_,_,_,_,_,rfl,PS.mk (k.get n id) sM λO C P E=>PS.mk E sM λQ F R H=>?_⟩;have q:=C.then F;refine aw (gD c a AW g e f h) H (aD (gD c a AW g e f h) (q.get (k.get A id) λj=>by have j:l.heap.size=w.heap.size:=j;omega) rfl λS t T I=>aw (gD c a AW g e f h) I (Ok.mk ⟨_,_,_,_,_,_,G,rfl,?_,λb i=>?_,?_⟩))
 ·exact(B.keep q λb i j=>by have j:b=w.heap.size:=j;have:=o b i;omega).keep t λb i j=>by have j:b=l.heap.size:=j;have:=o b i;omega
 ·have:=o b i;omega
 ·exact(((s.then m).then k).new q λb i=>.inr (by have i:b=w.heap.size:=i;omega)).new t λb i=>.inr (by have i:b=l.heap.size:=i;omega)
end
structure yE where
 kind:Int
 n:Int
 now:Int
 cmd:jS
 m:dz
structure ke (X Y:bw):Prop where
 evs:Y.S.l.length<=X.S.l.length+300\/Y.S.l.length<=16777216
 asked:Y.fP.asked.length<=X.fP.asked.length+1
theorem ke.refl (a:bw):ke a a:=⟨.inl oM,oM⟩
theorem KE {a b:Type} [BEq a] [LawfulBEq a] (c:a) (d:b):∀(e:List (a×b)),(aJ e c d).length<=e.length+1
 |[]=>by simp [aJ]
 |(g,h)::f=>by
  unfold aJ;split
  ·simp
  ·have:=KE c d f
   simp;omega
theorem KF {a d:Type} [BEq a] [LawfulBEq a] (b:a):∀(c:List (a×d)),(bV c b).length<=c.length
 |[]=>by simp [bV]
 |(f,g)::e=>by
  unfold bV;split
  ·simp
  ·have:=KF b e
   simp;omega
theorem sQ (a:Nat):∀(d:List ah) (f:aq) (b c:List ah),(dI a d f b c).2.1.length+(dI a d f b c).2.2.length<=b.length+c.length+d.length
 |[],f,b,c=>by simp [dI]
 |e::d,f,b,c=>by
  unfold dI;split
  ·have:=sQ a d (f.add e).2 (b++[e]) c
   simp at this⊢;omega
  split
  ·have:=sQ a d f b c
   simp;omega
  ·have:=sQ a d f b (dQ a c e).2
   have:=DI a c e;simp;omega
theorem sq:∀(b:List ah) (c:aq) (a:List ah),(dP b c a).2.length<=a.length+b.length
 |[],c,a=>by simp [dP]
 |e::b,c,a=>by
  unfold dP;split
  ·have:=sq b (c.add e).2 (a++[e])
   simp at this⊢;omega
  ·have:=sq b (c.add e).2 a
   simp;omega
theorem Gy:∀(k:Nat) (b:aq) (a c:List ah),(kW k b a c).1.length<=a.length+c.length
 |0,b,a,c=>by simp [kW]
 |k+1,b,a,c=>by
  unfold kW;have d:=xu b c;dsimp only;split
  ·simp
  ·have e:=sq (bI b c).1 b a
   have f:=Gy k (dP (bI b c).1 b a).1 (dP (bI b c).1 b a).2 (bI b c).2;omega
theorem CV (b:cz) (a:bw) (c:List ah):(fm b a c).1.length<=a.waits.length+c.length:=by
 have d:=sQ b.buffer.toNat c (dZ b a.S []) [] a.waits;have e:=Gy ((dI b.buffer.toNat c (dZ b a.S []) [] a.waits).2.2.length+1) (dI b.buffer.toNat c (dZ b a.S []) [] a.waits).1 (dI b.buffer.toNat c (dZ b a.S []) [] a.waits).2.1 (dI b.buffer.toNat c (dZ b a.S []) [] a.waits).2.2;simp at d;unfold fm;dsimp only;omega
theorem QC (c:cz) (a:aq) (b:List ah):(dZ c a b).l.length<=a.l.length+b.length:=by
 have:=aq.np (a.l++b) ⟨c.bl.toNat,[]⟩;unfold dZ;simp at this⊢;omega
theorem Gz (c:cz) (a:bw) (b:List ah):(bU c a b).2.S.l.length<=a.S.l.length+b.length/\(bU c a b).2.fP=a.fP:=by
 unfold bU
 cases a.log with
 |none=>exact⟨by dsimp only;omega,rfl⟩
 |some d=>
  dsimp only;split
  ·exact⟨by dsimp only;omega,rfl⟩
  split
  ·exact⟨by dsimp only;omega,rfl⟩
  ·exact⟨QC c a.S b,rfl⟩
theorem CP (c:cz) (b:Int) (a:bw) (d:jS):ke a (cm c b a d).2.2:=by
 unfold cm
 cases a.log with
 |none=>exact ke.refl a
 |some e=>
  dsimp only;split
  ·exact ke.refl a
  split
  ·have:=Gz c a [(kV c.decl a.S (cG c.decl a.S.l) b c.start d).1]
   simp at this;split
   ·exact⟨.inl (by dsimp only;omega),by dsimp only;rw [this.2];omega⟩
   ·exact⟨.inl (by dsimp only;omega),by dsimp only;rw [this.2];omega⟩
  ·exact ke.refl a
theorem mW (d:cz) (e:Int) (a:bw) (b:dz) (k:a.waits.length<=256) (l:d.chunk<=32):ke a (bA d e a b).2.2:=by
 unfold bA
 cases a.log with
 |none=>exact ke.refl a
 |some m=>
  dsimp only;split
  ·exact ke.refl a
  rename_i i;split
  ·exact ke.refl a
  split
  ·rename_i j
   have n:b.events.length<=32:=by
    rcases Nat.lt_or_ge 32 b.events.length with h|h
    ·exfalso
     apply i;unfold dJ;rw [if_pos j];intro c;split at c
     ·cases c
     ·unfold ez at c
      split at c
      ·cases c
      ·rw [if_pos (.inr oM)]at c;cases c
    ·exact h
   unfold ia;have o:=CV d a b.events;dsimp only;split
   ·exact⟨.inl (by dsimp only;omega),by dsimp only;omega⟩
   ·have f:=Gz d {a with waits:=(fm d a b.events).2} (fm d a b.events).1
    dsimp only at f;split
    ·exact⟨.inl (by dsimp only;omega),by dsimp only;rw [f.2];omega⟩
    ·exact⟨.inl (by dsimp only;omega),by dsimp only;rw [f.2];omega⟩
  ·have g:(a.fP.AP b.ck b.vec a.S.vec).asked.length<=a.fP.asked.length+1:=by
    unfold kr.AP;dsimp only;split
    ·have:=KF b.ck a.fP.asked;omega
    ·omega
   split
   ·exact⟨.inl (by dsimp only;omega),g⟩
   split
   ·exact⟨.inl (by dsimp only;omega),g⟩
   ·exact⟨.inl (by dsimp only;omega),g⟩
theorem CQ (e:cz) (a:Int) (c:bw) (b d:Int):ke c (gP e a c b d).2:=by
 unfold gP;split
 ·exact ke.refl c
 ·exact⟨.inl (by dsimp only;omega),KE _ _ _⟩
structure yE.Ok (x:yE):Prop where
 kind:aN x.kind
 n:aN x.n
 now:aN x.now
 cmd:x.cmd.Ok
def jZ (a:yE) (b:Option Addr) (c d:Nat) (e:Option Addr) (f g:Nat):List Value:=[XG a.kind,XG a.n,XG a.now]++gJ a.cmd++cD a.m b c d e f g
theorem FT (a:ve) (b:Option Addr) (c d:Nat) (e:Option Addr) (f g:Nat) (h:Option Addr) (i j:Nat):TF (fe ZX 46) (.agg (n_ a b c d e f g h i j).toArray)=true:=kR
theorem JH (a:cz) (b:Option Addr) (tn c:Nat) (d:Option Addr) (e f:Nat):TF (fe ZX 28) (lK a b tn c d e f)=true:=kR
def PJ:kM yE where
 k:=15
 rep:=λn D i cs=>∃a b e c d f,cs=jZ i a b e c d f/\Row aP 8 n D a b i.m.vec/\Row fZ 96 n D c d i.m.events/\i.Ok
 keep:=λ⟨a,b,e,c,d,f,g,j,k,l⟩ o h=>⟨a,b,e,c,d,f,g,j.keep o h,k.keep o h,l⟩
 mono:=λ⟨a,b,e,c,d,f,g,j,k,l⟩ h=>⟨a,b,e,c,d,f,g,j.mono h,k.mono h,l⟩
 len:=λ⟨a,b,e,c,d,f,g,_⟩=>by rw [g];rfl
 one:=λ⟨a,b,e,c,d,f,g,_⟩ p m=>by
  rw [g]at m;simp only [jZ,gJ,cD,List.cons_append,List.nil_append,Q2,List.not_mem_nil,or_false]at m;rcases m with rfl|rfl|rfl|rfl|rfl|rfl|rfl|rfl|rfl|rfl|rfl|rfl|rfl|rfl|rfl<;>rfl
section
variable {w w' w0 w1 w2:World} {p:Nat} {F E D Dv:Nat->Prop} {c:cz} {self:Int} {X:bw} {va ea:Option Addr} {vn vc en ec:Nat}
theorem Mt {a:dz} (k:Row aP 8 w D va vn a.vec) (g:Row fZ 96 w E ea en a.events):
  Calls ZX 28 #[kD a va vn vc ea en ec] w (Ok λh w'=>(∃e:Bool,h= .bool e/\(e=false->∀b∈a.events,b.aK.length<=100))/\ai w w'):=by
 refine Hj (PA.mk λw1 c l f=>⟨_,_,_,ae f rfl,al.dec (λ_=>Ok.mk ⟨⟨_,rfl,sM⟩,c⟩) (λ_=>⟨_,_,_,ae f rfl,PC.ok (Mu (g.af c)) ?_⟩)⟩);rintro _ _ ⟨rfl,rfl⟩;refine⟨_,rfl,Ok.mk ⟨⟨_,rfl,λd b i=>?_⟩,c⟩⟩;have d:=Xy d;exact Nat.le_of_not_lt λj=>d (.inl ⟨b,i,j⟩)
theorem Mv {k l:Option Addr} {tn p m q:Nat} (h:bh w D C k tn l m):Calls ZX 29 #[.agg #[.slice k tn p,.slice l m q]] w (Ok λr w'=>(∃e:Bool,r= .bool e)/\ai w w'):=by
 have B:=h.bd.len;have s:=h.bd.d_;unfold aQ at s;refine Hk (PA.mk λw1 a E b=>⟨_,_,_,ae b rfl,al.dec (λ_=>Ok.mk ⟨⟨_,rfl⟩,a⟩) (λ_=>⟨_,_,_,ae b rfl,al.dec (λ_=>Ok.mk ⟨⟨_,rfl⟩,a⟩) (λ_=>?_)⟩)⟩);refine⟨λf i w'=>∃c:Nat,i=c/\c<=tn/\f=tn-c/\w1=w',⟨_,0,rfl,Qj _,rfl,rfl⟩,?_⟩;rintro f _ _ _ ⟨c,rfl,F,rfl,rfl⟩;refine⟨_,_,_,ae b rfl,al.dec (λH=>?_) (λ_=>Ok.mk ⟨⟨_,rfl⟩,a⟩)⟩;obtain⟨e,j,I,J,rfl,K,-,L,t,M,n,N,rfl,o⟩:=(h.bd.af a).sS (i:=c) oM;have g:=t 0 dC;have u:lv.k=1:=rfl;rw [u,Nat.mul_one]at g;have v:=o.d_;unfold aQ at v;refine⟨_,_,_,ae b rfl,e,j,rfl,oM,oM,_,_,_,g,al.dec (λ_=>Ok.mk ⟨⟨_,rfl⟩,a⟩) (λ_=>?_)⟩;refine⟨λf i w'=>∃d:Nat,i=d/\d<=n/\f=n-d/\w1=w',⟨_,0,rfl,Qj _,rfl,rfl⟩,?_⟩;rintro f _ _ _ ⟨d,rfl,O,rfl,rfl⟩;refine⟨_,_,_,ae b rfl,e,j,rfl,oM,oM,_,_,_,g,al.dec (λP=>?_) (λ_=>⟨_,oM,c+1,an oM,oM,rfl,rfl⟩)⟩;obtain⟨x,y,Q,z,rfl,-,-,R,A,S,T,U,rfl,-,-⟩:=o.sS (i:=d) oM;exact⟨_,_,_,ae b rfl,e,j,rfl,oM,oM,_,_,_,g,x,y,rfl,oM,oM,_,_,_,A 3 dC,al.dec (λ_=>Ok.mk ⟨⟨_,rfl⟩,a⟩) (λ_=>⟨_,oM,d+1,an oM,oM,rfl,rfl⟩)⟩
theorem oX {r s t:Option Addr} {tn z u A m B:Nat} {f:List yE} (C:bh w D c.decl r tn s u) (o:Row PJ 152 w E t m f):
  Calls ZX 10 #[lK c r tn z s u A,.slice t m B] w (Ok λF w'=>(∃g:Bool,F= .bool g/\(g=false->f.length<=100/\∀d∈f,∀i∈d.m.events,i.aK.length<=100))/\ai w w'):=by
 have V:=o.len;have H:=o.d_;unfold aQ at H;refine Hh (PA.mk λw1 n W I=>?_);refine⟨λp w'=>ai w1 w'/\(f.length<=100->∀d∈f,∀i∈d.m.events,i.aK.length<=100),⟨λv p b w'=>∃a:Nat,b=a/\a<=m/\v=m-a/\ai w1 w'/\∀d∈f.take a,∀i∈d.m.events,i.aK.length<=100,⟨_,0,rfl,Qj _,rfl,aj.refl _,sM⟩,?_⟩,?_⟩
 ·rintro v p _ _ w2 ⟨a,rfl,X,rfl,j,k⟩
  refine al.dec (λY=>al.dec (λJ=>?_) (λJ=>⟨j,λK=>oM⟩)) (λZ=>⟨j,λ_=>by rw [Qz oM]at k;exact k⟩);obtain⟨g,l,L,es,rfl,M,-,N,x,va,vn,vc,ea,en,ec,rfl,O,P,-⟩:=(o.af (n.then j)).sS (i:=a) oM;refine⟨g,l,rfl,oM,oM,br (es:=cD L.m va vn vc ea en ec) (k:=5) (j_ _ _ _ _ _ _ _) rfl (λb ht=>by
   rw [Qx];have:=x (10+b) (show 10+b<15 by omega);rw [show l+a*15+10+b=l+a*PJ.k+(10+b) by show _=l+a*15+_;omega,this];rcases b with _|_|_|_|_|b<;>first|rfl|omega) (PC.ok (Mt O P) ?_)⟩
  rintro _ Q ⟨⟨R,rfl,S⟩,e⟩;refine⟨_,rfl,al.mk (λ_=>Ok.mk ⟨⟨_,rfl,sM⟩,(n.then j).then e⟩) (λT=>?_)⟩;refine⟨g,l,rfl,oM,oM,_,_,_,(e.cell (a:=⟨g,_,none⟩) M id).trans (by rw [Qx];exact x 14 dC),_,oM,a+1,an oM,oM,rfl,j.then e,?_⟩;rw [Qw,N];intro d h;rcases Q6.1 h with h|h
  ·exact k d h
  ·simp at h;subst h;exact S T
 ·rintro p _ Q ⟨e,k⟩
  have y:=e.get I id;refine⟨_,_,_,_,_,_,ae y rfl,ae y rfl,PC.ok (Mv (C.af (n.then e))) ?_⟩;rintro _ w4 ⟨⟨R,rfl⟩,U⟩;have q:=(n.then e).then U;refine⟨_,rfl,al.mk (λ_=>Ok.mk ⟨⟨_,rfl,sM⟩,q⟩) (λ_=>al.dec (λ_=>Ok.mk ⟨⟨_,rfl,sM⟩,q⟩) (λK=>Ok.mk ⟨⟨_,rfl,λ_=>⟨oM,k oM⟩⟩,q⟩))⟩
theorem bP.waits (e:bP w p F c self X):X.waits.length<=256:=by
 obtain⟨h,f,a,g⟩:=e;obtain⟨i,D,b,-,-⟩:=(show Mw w (λd=>F d/\a d=5) f.wp c.buffer.toNat X.waits from g.at' 5)
 exact Xx b.1.2.le b.1.1
theorem bP.ok (a:bP w p F c self X):kU c self:=a.1
end
end Go.Proofs.YtfchlbaidamodaaGreatDoor
namespace Go.ax
open Go Go.WideShapes
variable{L:Bool}{g2:List MemPlace}{a:Nat}{h:Program}{I j:Type}{g:TypeId}{v:Value}{b:World}
theorem wM {c:TypeId×Value->j} {k:Reach} {f:DataW j} {i:kM I} {l:Array Field} (m:h.underlying g=some (.struct l)) (n:Reads h i g)
  (o:Value.okWide h b k a g v) (p:DataW.Trod c h b 0 (λ_=>true) L g v f g2) (q:jW h g f):∃e cs,v= .agg cs/\i.rep b (In b) e cs.toList:=by
 obtain⟨cs,rfl,-⟩:=okWide_struct m o;obtain⟨d,r⟩:=p;obtain⟨e,s⟩:=n j c b L d cs.toList _ r q;exact⟨e,cs,rfl,s⟩
end Go.ax
namespace Go.Proofs.YtfchlbaidamodaaGreatDoor
open Go.ax
def XE:kM aR where
 k:=2
 rep:=λj D k cs=>∃a tn d b c e,cs=[.slice a tn d,.slice b c e]/\bh j D k a tn b c
 keep:=λ⟨a,tn,d,b,c,e,f,g⟩ l h=>⟨a,tn,d,b,c,e,f,g.keep l h⟩
 mono:=λ⟨a,tn,d,b,c,e,f,g⟩ h=>⟨a,tn,d,b,c,e,f,g.mono h⟩
 len:=λ⟨a,tn,d,b,c,e,f,_⟩=>by rw [f];rfl
 one:=λ⟨a,tn,d,b,c,e,f,_⟩ m i=>by rw [f]at i;simp at i;rcases i with rfl|rfl<;>rfl
def XF:kM jS:=flat 7 gJ jS.Ok (λ_=>rfl) (λb c a=>by simp [gJ]at a;rcases a with rfl|rfl|rfl|rfl|rfl|rfl|rfl<;>rfl)
theorem Mn:Reads ZX gC 125:=λz g A B b cs C h E=>by
 obtain⟨i,F,_,rfl,j,k,a⟩:=DataW.trod_struct (Tryz.underlying125) h;have l:Tryz.prog.cellsOf 125=4:=kR
 have m:cs.length=4:=j.trans l;have n:Tryz.prog.cellsOf 3=1:=kR
 match cs,m with
 |[H,I,J,K],_=>
 match i,k with
 |[L,M,N,O],_=>
  have c:=a 0 _ rfl;have d:=a 1 _ rfl;have e:=a 2 _ rfl;have f:=a 3 _ rfl;simp only [n,List.drop_zero,List.drop_succ_cons,List.take_succ_cons,List.take_zero,List.take_nil,List.getElem?_cons_zero,List.getElem?_cons_succ]at c d e f;obtain⟨o,p,-,q⟩:=DataW.trod_int Tryz.underlying3 c;obtain⟨z1,r,-,s⟩:=DataW.trod_int Tryz.underlying3 d;obtain⟨t,u,-,v⟩:=DataW.trod_int Tryz.underlying3 e;obtain⟨w,x,-,y⟩:=DataW.trod_int Tryz.underlying3 f
  cases p;cases r;cases u;cases x
  exact⟨⟨o,z1,t,w⟩,rfl,aT q,aT s,aT v,aT y⟩
theorem PG:Reads ZX pT 123:=λL g M N b cs O h i=>by
 obtain⟨j,P,_,rfl,k,l,a⟩:=DataW.trod_struct (Tryz.underlying123) h;have m:Tryz.prog.cellsOf 123=4:=kR
 have n:cs.length=4:=k.trans m;have o:Tryz.prog.cellsOf 3=1:=kR
 have p:Tryz.prog.cellsOf 4=1:=kR
 have q:Tryz.prog.cellsOf 121=1:=kR
 match cs,n with
 |[Q,R,S,T],_=>
 match j,l with
 |[U,V,W,r],_=>
  have c:=a 0 _ rfl;have d:=a 1 _ rfl;have e:=a 2 _ rfl;have f:=a 3 _ rfl;simp only [o,p,q,List.drop_zero,List.drop_succ_cons,List.take_succ_cons,List.take_zero,List.take_nil,List.getElem?_cons_zero,List.getElem?_cons_succ]at c d e f;obtain⟨s,t,-,u⟩:=DataW.trod_int Tryz.underlying3 c;obtain⟨z1,v,-,w⟩:=DataW.trod_int Tryz.underlying3 d;obtain⟨x,y,-⟩:=DataW.trod_bool Tryz.underlying4 e;have z:jW ZX 121 r.1:=by
   intro A B;refine i A ?_;have C:Tryz.prog.underlying 123=_:=Tryz.underlying123;simp only [DataW.weights,C,QY,List.map_nil,DataW.weightsEach,Q6];right;right;right;left;exact B
  obtain⟨E,F,H,I,J,-,-,K⟩:=open_row (bytes:=32) Tryz.underlying121 kR dC kR (Mn) f z
  cases t;cases v;cases y;cases J
  exact⟨⟨s,z1,x,I⟩,E,F,H,rfl,K,aT u,aT w⟩
theorem PH:Reads ZX lv 130:=λx c y z a cs A d e=>by
 obtain⟨f,B,_,rfl,g,h,i⟩:=DataW.trod_struct (Tryz.underlying130) d;have j:Tryz.prog.cellsOf 130=1:=kR
 have k:cs.length=1:=g.trans j;have l:Tryz.prog.cellsOf 126=1:=kR
 match cs,k with
 |[C],_=>
 match f,h with
 |[m],_=>
  have b:=i 0 _ rfl;simp only [l,List.drop_zero,List.drop_succ_cons,List.take_succ_cons,List.take_zero,List.take_nil,List.getElem?_cons_zero,List.getElem?_cons_succ]at b;have n:jW ZX 126 m.1:=by
   intro o p;refine e o ?_;have q:Tryz.prog.underlying 130=_:=Tryz.underlying130;simp only [DataW.weights,q,QY,List.map_nil,DataW.weightsEach,Q6];left;exact p
  obtain⟨r,s,t,u,v,-,-,w⟩:=open_row (bytes:=48) Tryz.underlying126 kR dC kR (PG) b n
  cases v
  exact⟨u,r,s,t,rfl,w⟩
theorem Mo:Reads ZX wH 128:=λE h F H b cs I i J=>by
 obtain⟨j,K,_,rfl,k,l,a⟩:=DataW.trod_struct (Tryz.underlying128) i;have m:Tryz.prog.cellsOf 128=5:=kR
 have n:cs.length=5:=k.trans m;have o:Tryz.prog.cellsOf 3=1:=kR
 match cs,n with
 |[L,M,N,O,P],_=>
 match j,l with
 |[Q,R,S,T,U],_=>
  have c:=a 0 _ rfl;have d:=a 1 _ rfl;have e:=a 2 _ rfl;have f:=a 3 _ rfl;have g:=a 4 _ rfl;simp only [o,List.drop_zero,List.drop_succ_cons,List.take_succ_cons,List.take_zero,List.take_nil,List.getElem?_cons_zero,List.getElem?_cons_succ]at c d e f g;obtain⟨p,q,-,r⟩:=DataW.trod_int Tryz.underlying3 c;obtain⟨z1,s,-,t⟩:=DataW.trod_int Tryz.underlying3 d;obtain⟨u,v,-,w⟩:=DataW.trod_int Tryz.underlying3 e;obtain⟨x,y,-,z⟩:=DataW.trod_int Tryz.underlying3 f;obtain⟨A,B,-,C⟩:=DataW.trod_int Tryz.underlying3 g
  cases q;cases s;cases v;cases y;cases B
  exact⟨⟨p,z1,u,x,A⟩,rfl,aT r,aT t,aT w,aT z,aT C⟩
theorem CF:Reads ZX XE 25:=λI i J K d cs L j e=>by
 obtain⟨k,M,_,rfl,l,m,f⟩:=DataW.trod_struct (Tryz.underlying25) j;have n:Tryz.prog.cellsOf 25=2:=kR
 have o:cs.length=2:=l.trans n;have p:Tryz.prog.cellsOf 22=1:=kR
 have q:Tryz.prog.cellsOf 23=1:=kR
 match cs,o with
 |[N,O],_=>
 match k,m with
 |[r,s],_=>
  have g:=f 0 _ rfl;have h:=f 1 _ rfl;simp only [p,q,List.drop_zero,List.drop_succ_cons,List.take_succ_cons,List.take_zero,List.take_nil,List.getElem?_cons_zero,List.getElem?_cons_succ]at g h;have t:jW ZX 22 r.1:=by
   intro a b;refine e a ?_;have c:Tryz.prog.underlying 25=_:=Tryz.underlying25;simp only [DataW.weights,c,QY,List.map_nil,DataW.weightsEach,Q6];left;exact b
  obtain⟨u,v,w,x,y,-,-,z⟩:=open_row (bytes:=24) Tryz.underlying22 kR dC kR (PH) g t;have A:jW ZX 23 s.1:=by
   intro a b;refine e a ?_;have c:Tryz.prog.underlying 25=_:=Tryz.underlying25;simp only [DataW.weights,c,QY,List.map_nil,DataW.weightsEach,Q6];right;left;exact b
  obtain⟨B,C,E,z1,F,-,-,H⟩:=open_row (bytes:=40) Tryz.underlying23 kR dC kR (Mo) h A
  cases y;cases F
  exact⟨⟨x,z1⟩,u,v,w,B,C,E,rfl,⟨z,H⟩⟩
theorem FR:Reads ZX XF 49:=λM j N O b cs P k Q=>by
 obtain⟨l,R,_,rfl,m,n,a⟩:=DataW.trod_struct (Tryz.underlying49) k;have o:Tryz.prog.cellsOf 49=7:=kR
 have p:cs.length=7:=m.trans o;have q:Tryz.prog.cellsOf 3=1:=kR
 match cs,p with
 |[S,T,U,V,W,X,Y],_=>
 match l,n with
 |[Z,y1,y2,y3,y4,y5,y6],_=>
  have c:=a 0 _ rfl;have d:=a 1 _ rfl;have e:=a 2 _ rfl;have f:=a 3 _ rfl;have g:=a 4 _ rfl;have h:=a 5 _ rfl;have i:=a 6 _ rfl;simp only [q,List.drop_zero,List.drop_succ_cons,List.take_succ_cons,List.take_zero,List.take_nil,List.getElem?_cons_zero,List.getElem?_cons_succ]at c d e f g h i;obtain⟨r,s,-,t⟩:=DataW.trod_int Tryz.underlying3 c;obtain⟨z1,u,-,v⟩:=DataW.trod_int Tryz.underlying3 d;obtain⟨w,x,-,y⟩:=DataW.trod_int Tryz.underlying3 e;obtain⟨z,A,-,B⟩:=DataW.trod_int Tryz.underlying3 f;obtain⟨C,E,-,F⟩:=DataW.trod_int Tryz.underlying3 g;obtain⟨H,I,-,w5⟩:=DataW.trod_int Tryz.underlying3 h;obtain⟨J,K,-,L⟩:=DataW.trod_int Tryz.underlying3 i
  cases s;cases u;cases x;cases A;cases E;cases I;cases K
  exact⟨⟨r,z1,w,z,C,H,J⟩,rfl,aT t,aT v,aT y,aT B,aT F,aT L⟩
end Go.Proofs.YtfchlbaidamodaaGreatDoor
namespace Go.Proofs.YtfchlbaidamodaaGreatDoor
open Go.ax
variable{T q:Array Value}{g4 z:FuncId}{e:Int}{u:List Int}{a1 f2 h8:List PanicEntry->World->Prop}{a:Nat}{K a3:Prop}{v:Value}{a7 b l:World}{y:World->Prop}{C:aR}{k:ah}{A:aq}{d3:bw}{e1:cz}{f3:ve}
theorem aq.le_top :∀c∈A.l,c.aA<=A.top:=by
 have:∀(b:List ah) (a:Int),a<=b.foldl (λa d=>max a d.aA) a/\∀c∈b,c.aA<=b.foldl (λa d=>max a d.aA) a:=by
  intro b
  induction b with
  |nil=>intro a;simp
  |cons d b f=>
   intro a;obtain⟨h,g⟩:=f (max a d.aA);rw [List.foldl_cons];refine⟨oM,λc e=>?_⟩;rcases Q2.1 e with rfl|e
   ·omega
   ·exact g c e
 exact(this A.l 0).2
theorem PL (c:∀d∈u,0<=d):jo u []=u:=by
 unfold jo oC;apply List.ext_getElem
 ·simp
 ·intro a f e
  have b:a<u.length:=e;have g:=c u[a] (XY b);simp only [List.getElem_map,List.getElem_range];rw [HM (xs:=u) (i:=(a:Int)) (x:=u[a]) oM (by simp [b]),JF (xs:=[]) sM];omega
theorem aq.Cl.Up (c:A.Cl) (e:k∈A.l) (f:a<A.n):k.aK.getD a 0<=(A.sX a:Int):=by
 rcases qT.1 (c.ly k e a f)with j|⟨g,h,-⟩
 ·omega
 ·obtain⟨i,b⟩:=aq.get_some h
  have d:=c.le g i;unfold aO at b;simp only [Prod.mk.injEq]at b;rw [b.1,b.2,Qx]at d;exact d
theorem aq.Cl.next (e:A.Cl) (j:a<A.n) (t:A.l.length<=20000000) (f:k.origin=a) (g:k.seq=(A.sX a:Int)+1) (l:∀b∈A.l,b.aA<k.aA) (u:1<=k.aA) (i:k.aK=A.vec) (v:0<=k.agg) (w:0<=k.key) (x:1<=k.op/\k.op<=5) (y:0<=k.bd/\k.bd<8) (z:0<=k.field/\k.field<8):
  A.add k=(0,⟨A.n,A.l++[k]⟩):=by
 have B:=A.Mq a;have n:dh k A.n=0:=by
  unfold dh;rw [if_neg,if_neg,if_neg oM,if_neg oM]
  ·rw [f,Qx,i,A.iJ j,g]
   have:pH ((A.sX a:Int)+1-1)=A.sX a:=by
    show IntKind.wrap .i64 _=_;rw [wrap_i64 (by unfold aN;omega)];omega
   rw [this];simp
  ·rw [f,g,i,A.b_]
   simp only [not_or];refine⟨oM,oM,oM,oM,sM,?_⟩;simp [aq.vec]
 have o:A.get (aO k)=none:=by
  cases c:A.get (aO k)with
  |none=>rfl
  |some b=>
   obtain⟨p,h⟩:=aq.get_some c;have q:=e.le b p;unfold aO at h;simp only [Prod.mk.injEq]at h;rw [h.1,h.2,f,Qx,g]at q;omega
 have r:∀d,d<A.n->A.ly k d=true:=λd m=>by
  rw [qT,i,A.iJ m]
  by_cases C:A.sX d=0
  ·exact .inl oM
  ·obtain⟨b,c,s⟩:=e.has d (A.sX d) m oM (Int.le_refl _)
   refine .inr ⟨b,?_,l b c,λE F=>?_⟩
   ·rw [<-s];exact e.ok.get c
   ·obtain⟨-,-,-,-,-,-,H,-⟩:=im (e.ok.TC b c)
    rw [A.iJ oM];exact e.Up c oM
 rw [aq.NV n o (by rw [f,Qx,A.iJ j,g]) r,oB];intro b c;have:=l b c;unfold fg;simp;omega
theorem Mr (g:dd C=0) {b c d arg:Int} (a:jY C b c d arg=0):1<=d/\d<=5/\0<=b/\b<8/\0<=c/\c<8:=by
 obtain⟨i,-,-⟩:=lu g;obtain⟨l,m,n,o⟩:=xD i;have e:=a;unfold jY at a
 cases f:C.Ed b c with
 |none=>rw [f]at a;simp at a
 |some p=>
  rw [f]at a;simp only at a;obtain⟨q,r,s,t,j,u,v,w⟩:=aR.rJ f;have k:=(HN g e (cells:=dG (C.at b)) (by simp [dG])).2.2.2;rw [j]at k;split at a
  ·simp at a
  ·rename_i h
   simp only [Bool.or_eq_true,not_or,Bool.not_eq_true,Bool.not_eq_eq_eq_not,Bool.not_true,Bool.not_false]at h;have:=bO.1 (by simpa using h.1:within d 1 5=true);omega
theorem YV [Decidable K] [Decidable a3] {c d e b:ah×Bool×Int} (a:(if K then c else if a3 then d else e)=b) (f:c.2.2≠0) (g:d.2.2≠0) (h:b.2.2=0):e=b:=by
 by_cases i:K
 ·rw [if_pos i]at a;rw [a]at f;exact absurd h f
 rw [if_neg i]at a
 by_cases j:a3
 ·rw [if_pos j]at a;rw [a]at g;exact absurd h g
 rw [if_neg j]at a;exact a
structure Wa (c:cz) (me:Int) (X:bw) (x:jS):Prop where
 no:(cm c me X x).1≠0->(cm c me X x).2.2.S=X.S
 VJ:(cm c me X x).1=0->(cm c me X x).2.2.S.l.length=X.S.l.length->x.key≠0/\(cm c me X x).2.2.S=X.S
 new:(cm c me X x).1=0->(cm c me X x).2.2.S.l.length≠X.S.l.length->∃e:ah,(cm c me X x).2.2.S.l=X.S.l++[e]/\aO e=(cm c me X x).2.1/\aO e=(me,(X.S.sX me.toNat:Int)+1)/\
  (x.key≠0->cm c me (cm c me X x).2.2 x=(0,aO e,(cm c me X x).2.2))
theorem Uq {x:jS} (s:kU e1 e) (v:d3.S.Cl) (C:d3.S.n=e1.bl.toNat) (E:d3.S.l.length<=20000000):Wa e1 e d3 x:=by
 obtain⟨Z,a6⟩:=s.JG;obtain⟨a7,a8,a9⟩:=s.bl;obtain⟨m,t⟩:∃m:Nat,e=m:=⟨e.toNat,oM⟩
 have w:m<d3.S.n:=oM
 cases o:d3.log with
 |none=>
  have c:cm e1 e d3 x=(15,(0,0),d3):=by unfold cm;rw [o]
  refine⟨λ_=>by rw [c],λb=>?_,λb=>?_⟩<;>(rw [c]at b;simp at b)
 |some a0=>
 obtain⟨a,f⟩:∃a,kV e1.decl d3.S (cG e1.decl d3.S.l) e e1.start x=a:=⟨_,rfl⟩
 have c:cm e1 e d3 x=(if a.2.2≠0 then(a.2.2,(0,0),d3)else if a.2.1 then(if(bU e1 d3 [a.1]).1≠0 then((bU e1 d3 [a.1]).1,(0,0),(bU e1 d3 [a.1]).2)else(0,aO a.1,(bU e1 d3 [a.1]).2))else(0,aO a.1,d3)):=by
  unfold cm;rw [o,<-f]
 have b0:=f;rw [nZ]at f
 by_cases g:a.2.2≠0
 ·rw [if_pos g]at c
  refine⟨λ_=>by rw [c],λb=>?_,λb=>?_⟩<;>(rw [c]at b;exact absurd b g)
 rw [if_neg g]at c;have g:a.2.2=0:=Classical.not_not.1 g
 by_cases h:fB e1.decl x≠0
 ·rw [if_pos h]at f;rw [<-f]at g;exact absurd g h
 rw [if_neg h]at f;have h:fB e1.decl x=0:=Classical.not_not.1 h
 cases k:d3.S.keyed x.key with
 |some F=>
  rw [k]at f;simp only at f;subst f;have c:cm e1 e d3 x=(0,aO F,d3):=by rw [c];rfl
  refine⟨λb=>absurd (by rw [c]) b,λ_ _=>⟨?_,by rw [c]⟩,λ_ b=>absurd (by rw [c]) b⟩;intro H;unfold aq.keyed at k;have:=List.find?_some k;rw [H]at this;simp at this
 |none=>
  rw [k]at f;simp only at f;have f:=YV f sM sM g;have I:a.2.1=true:=by rw [<-f]at g⊢;simpa using g
  rw [if_pos I]at c
  by_cases d:(bU e1 d3 [a.1]).1≠0
  ·rw [if_pos d]at c
   have n:(bU e1 d3 [a.1]).2.S=d3.S:=by
    unfold bU at d⊢;rw [o]at d⊢;dsimp only at d⊢;split
    ·rfl
    rename_i l;rw [if_neg l]at d;split
    ·rfl
    rename_i p;rw [if_neg p]at d;exact absurd rfl d
   refine⟨λ_=>by rw [c];exact n,λb=>?_,λb=>?_⟩<;>(rw [c]at b;exact absurd b d)
  rw [if_neg d]at c;have J:∃y,(bU e1 d3 [a.1]).2.log=some y/\(bU e1 d3 [a.1]).2.S=dZ e1 d3.S [a.1]:=by
   unfold bU at d⊢;rw [o]at d⊢;dsimp only at d⊢;split
   ·rename_i l;rw [if_pos l]at d;exact absurd l d
   rename_i l;rw [if_neg l]at d;split
   ·rename_i p;rw [if_pos p]at d;exact absurd p d
   ·exact⟨_,rfl,rfl⟩
  obtain⟨y,K,L⟩:=J;have j:(a_ x e d3.S.vec (max d3.S.top e1.start)).1=0:=by rw [<-f]at g;exact g
  have i:a.1=(a_ x e d3.S.vec (max d3.S.top e1.start)).2:=by rw [<-f]
  have M:∀q∈d3.S.vec,0<=q:=λq r=>by
   unfold aq.vec at r;obtain⟨a1,-,rfl⟩:=Xk.1 r;omega
  have z:fH d3.S.vec e=d3.S.sX m:=by
   rw [HM (x:=(d3.S.sX m:Int)) oM (by rw [t,Qx];exact d3.S.my w)];omega
  unfold a_ at j i;dsimp only at j i
  by_cases A:e<0\/(d3.S.vec.length:Int)<=e\/max d3.S.top e1.start<0
  ·rw [if_pos A]at j;cases j
  rw [if_neg A]at j i
  by_cases B:fH d3.S.vec e=9223372036854775807\/max d3.S.top e1.start=9223372036854775807
  ·rw [if_pos B]at j;cases j
  rw [if_neg B]at i;dsimp only at i;unfold fB at h;split at h
  ·cases h
  rename_i N;obtain⟨O,P,Q,R,S,T⟩:=Mr s.decl h;have U:d3.S.add a.1=(0,⟨d3.S.n,d3.S.l++[a.1]⟩):=by
   have b1:=d3.S.CL;rw [i];exact v.next w E t (by dsimp only;rw [z]) (λq r=>by have:=aq.le_top q r;dsimp only;omega) (by dsimp only;omega) (PL M) (by dsimp only;omega) (by dsimp only;omega) ⟨O,P⟩ ⟨Q,R⟩ ⟨S,T⟩
  have n:(bU e1 d3 [a.1]).2.S=⟨d3.S.n,d3.S.l++[a.1]⟩:=by
   rw [L,lJ v C];show(d3.S.add a.1).2=_;rw [U]
  have V:aO a.1=(e,(d3.S.sX e.toNat:Int)+1):=by rw [i];unfold aO;dsimp only;rw [z,t,Qx]
  refine⟨λb=>absurd (by rw [c]) b,λ_ b=>?_,λ_ _=>⟨a.1,by rw [c];exact congrArg aq.l n,by rw [c],V,λW=>?_⟩⟩
  ·rw [c]at b
   have b:(bU e1 d3 [a.1]).2.S.l.length=d3.S.l.length:=b;rw [n]at b;simp at b
  ·rw [c]
   dsimp only;generalize b2:(bU e1 d3 [a.1]).2=u at*;have X:u.S.keyed x.key=some a.1:=by
    rw [n];unfold aq.keyed at k⊢;rw [List.find?_append,k];simp only [Option.none_or];have:a.1.key=x.key:=by rw [i]
    simp [this,W]
   have Y:kV e1.decl u.S (cG e1.decl u.S.l) e e1.start x=(a.1,false,0):=by
    rw [nZ,if_neg (by unfold fB;rw [if_neg N];simpa using h),X]
   unfold cm;rw [K];simp only;rw [Y];simp
theorem ju.af (f:ju b f3 v l) (a:ai l a7):ju b f3 v a7:=by
 obtain⟨g,h,i,j,k,m,n,o,p,G,q,r,s,t,c⟩:=f;exact⟨g,h,i,j,k,m,n,o,p,G,q,r.af a,s.af a,t.af a,λd e=>⟨(c d e).1,by have:=(c d e).2;have:=a.size;omega⟩⟩
theorem Oh {x:ve} (o:∀a,ai b a->Calls ZX z q a (Ok λd c=>ju a x d c/\ai a c)) (p:∀a,ai b a->Calls ZX g4 T a (Ok λd c=>ju a x d c/\ai a c)) {r:World->Prop} (f:∀c,ai b c->y c):
  PC ZX z q b (λd a=>yY (fe ZX 46) λx=>d=x/\PC ZX g4 T a (λg h=>yY (fe ZX 46) λi=>g=i/\PC ZX 47 #[x,i] h (λs e=>∃j:Bool,s= .bool j/\al (!j) (r e) (y e)) a1) f2) h8:=by
 refine PC.ok (o b (aj.refl _)) ?_;rintro d a ⟨k,l⟩;have t:=k;obtain⟨u,v,w,A,B,C,E,F,H,G,rfl,-⟩:=k;refine cu (FT x u v w A B C E F H) ⟨rfl,PC.ok (p a l) ?_⟩;rintro g h ⟨m,n⟩;have I:=m;obtain⟨J,tn,K,L,M,N,O,P,Q,S,rfl,-⟩:=m;refine cu (FT x J tn K L M N O P Q) ⟨rfl,PC.ok (CM (t.af n) I) ?_⟩;rintro _ e ⟨rfl,R⟩;exact⟨_,rfl,al.ff rfl (f e ((l.then n).then R))⟩
section
variable {w w' w0:World} {p q:Nat} {F G D:Nat->Prop} {c e:cz} {self other:Int} {X Y:bw}
theorem rN (l:bP w p F c self X) (m:bP w q G e other Y) (n:c.decl=e.decl) (o:X.S.l=Y.S.l) {u v:Option Addr} {tn B r E:Nat} (x:bh w D C u tn v r):
  Calls ZX 21 #[.pointer (some ⟨p,0,none⟩),.pointer (some ⟨q,0,none⟩),.agg #[.slice u tn B,.slice v r E]] w (Ok λH w'=>H= .bool true/\ai w w'):=by
 have I:=x.bd.d_;have J:=x.Bk.d_;unfold aQ at I J;refine Ce (PA.mk λd y O z=>?_);have step:∀{a:Nat},a<1000000000000000->IntKind.wrap .i64 ((a:Int)-1+1)=((a+1:Nat):Int)-1:=λ{a} A=>by
  rw [wrap_i64 (by unfold aN;omega)];omega
 refine⟨λg k w'=>∃a:Nat,k=(a:Int)-1/\a<=tn+2/\g=tn+2-a/\ai d w',⟨_,0,rfl,Qj _,rfl,aj.refl _⟩,?_⟩;rintro g _ _ P ⟨a,rfl,A,rfl,s⟩;refine⟨_,_,_,ae (s.get z id) rfl,al.dec (λK=>?_) (λQ=>?_)⟩
 ·refine⟨λg k w'=>∃h:Nat,k=h/\h<=4/\g=4-h/\ai d w',⟨_,0,rfl,Qj _,rfl,s⟩,?_⟩
  rintro g _ _ L ⟨h,rfl,R,rfl,i⟩;have f:=y.then i;refine al.dec (λS=>?_) (λ_=>⟨_,oM,a+1,step oM,oM,rfl,i⟩);refine Oh (x:=ET c.decl X.S.l ((a:Int)-1) h) (λd b=>A_ ((l.af f).af b)) (λd b=>by rw [n,o];exact A_ ((m.af f).af b)) λM j=>?_;refine Oh (x:=Ba c.decl X.S.l ((a:Int)-1) h h) (λd b=>CR (((l.af f).af j).af b) (by unfold aN;omega)) (λd b=>by rw [n,o];exact CR (((m.af f).af j).af b) (by unfold aN;omega)) λN t=>?_;exact⟨_,oM,h+1,an oM,oM,rfl,(i.then j).then t⟩
 ·refine⟨λg k w'=>∃a:Nat,k=(a:Int)-1/\a<=r+2/\g=r+2-a/\ai d w',⟨_,0,rfl,Qj _,rfl,s⟩,?_⟩
  rintro g _ _ L ⟨a,rfl,A,rfl,i⟩;have f:=y.then i;refine⟨_,_,_,ae (i.get z id) rfl,al.dec (λK=>?_) (λ_=>Ok.mk ⟨rfl,f⟩)⟩;refine Oh (x:=yF c.decl X.S.l ((a:Int)-1) (-9223372036854775808)) (λd b=>sH ((l.af f).af b)) (λd b=>by rw [n,o];exact sH ((m.af f).af b)) λM j=>?_;refine Oh (x:=yF c.decl X.S.l ((a:Int)-1) 2) (λd b=>sH (((l.af f).af j).af b)) (λd b=>by rw [n,o];exact sH (((m.af f).af j).af b)) λN t=>?_;exact⟨_,oM,a+1,step oM,oM,rfl,(i.then j).then t⟩
end
end Go.Proofs.YtfchlbaidamodaaGreatDoor

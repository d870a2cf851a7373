import Derived.Test.YtjgjkeponbeekaaGreatDoorKa26
set_option linter.all false
set_option maxHeartbeats 4000000
set_option maxRecDepth 100000
namespace Go.Proofs.YtjgjkeponbeekaaGreatDoor
open Go.ar
def bJ(a:List aj):List UInt8×Int:=if a.any fQ then([],3)else(dV a,0)
variable{e:Int}{t:List Int}{x:List UInt8}{K:List aj}{a c i k:Nat}{a3 f:Nat->Prop}{d:Option Addr}{b l:World}{b0:ej}
def JY(V:Laid b)(E:Row jj 96 b f d a K)(W:∀e,f e->e<b.heap.size)(hl:K.length<=20000000):
  Calls XP 142 #[.slice d a c] b (Ok λX r=>∃F H I n,X= .tuple #[.slice F H I,XH (bJ K).2]/\aO fv 5 n r F H I (bJ K).1/\ai b r/\∀e,n e->b.heap.size<=e):=by
 have hn:=E.len;refine wi ⟨λJ L N O P r=>∃(g:Nat) (n:Nat->Prop),P=g/\g<=a/\J=a-g/\(∀h∈K.take g,h.Ok/\h.aP.length<=64)/\(dV (K.take g)).length<=675*g/\aO fv 5 n r L N O (dV (K.take g))/\ai b r/\∀e,n e->b.heap.size<=e,
  ⟨_,0,λ_=>False,rfl,Qj _,rfl,sM,by simp[dV],aO.nil b,ak.refl _,λ_ v=>v.elim⟩,?_⟩
 rintro J L N O P _ Y ⟨g,n,rfl,hj,rfl,w,Z,p,o,x⟩;refine al.dec (λa9=>?_) (λb0=>?_)
 ·obtain⟨e,y,h,es,rfl,_,_,Q,l,a1,n1,c1,rfl,hd,t⟩:=(E.ah o).yV (i:=g) oM
  have j:=λi (hi:i<10)=>l i hi;refine⟨e,y,rfl,oM,oM,_,_,_,_,_,_,_,_,_,_,_,_,j 0 dC,j 1 dC,j 2 dC,j 3 dC,j 4 dC,j 5 dC,j 6 dC,j 7 dC,j 8 dC,j 9 dC,PA.mk λw2 k2 s2 g2=>?_⟩;refine storeAll (aC h a1 n1 c1) g2 rfl λw3 k3 s3 k=>?_;have q:ai Y w3:=k2.new k3 λe m=>.inr oM;refine⟨_,_,_,_,_,_,_,_,_,_,_,_,ae k rfl,ae k rfl,ae k rfl,ae k rfl,ae k rfl,ae k rfl,ae k rfl,ae k rfl,ae k rfl,ae k rfl,?_⟩;refine PC.ok (Dh (V.ah (o.then q)) (hd.ah q) t λe m=>by have:=W e m;have:=(o.then q).size;omega) ?_;rintro _ R ⟨a4,n4,c4,F4,rfl,s,S,T⟩
  by_cases u:h.aP.length<=64
  ·have z:=qb t u
   rw[z]at s⊢;have b1:=Lz t u;refine⟨_,_,_,_,rfl,al.dB (λl=>absurd rfl l) (λ_=>?_)⟩;have A:=q.then S;have a0:Row fv 1 R F4 a4 n4 (wJ h):=s.row (bytes:=1) dC (by unfold aK;dsimp only;omega);have b2:=A.size;have b3:=q.size;refine yX (p.ah A) sK a0 (λh=>s.MO h) (λe m=>⟨s.aB e m,λl=>by have:=p.aB e (p.self e l);have:=T e m;omega⟩) (by unfold aK;omega) (by unfold maxLen;omega) λb4 c5 w5 F5 a3 a6 a7 _=>?_;have B:K.take (g+1)=K.take g++[h]:=by rw[Qw,Q];rfl
   refine⟨_,_,_,rfl,a-(g+1),oM,g+1,F5,aq oM,oM,rfl,?_,?_,?_,(o.then A).new a6 λe m=>.inr (by have:=x e (p.self e m);omega),?_⟩
   ·rw[B]
    intro a2 C;rcases Q6.1 C with M|M
    ·exact w a2 M
    ·simp at M;subst M;exact⟨t,u⟩
   ·rw[B,nK];simp;omega
   ·rw[B,nK];exact a3
   ·intro e m
    have:=o.size;rcases a7 e m with M|M|M
    ·exact x e M
    ·have:=T e M;omega
    ·omega
  ·have z:=xq u
   rw[z]at s⊢;refine⟨_,_,_,_,rfl,al.dB (λ_=>?_) (λl=>absurd l dC)⟩;have a5:K.any fQ=true:=List.any_eq_true.2 ⟨h,QZ Q,by unfold fQ;simp;omega⟩;rw[show bJ K=([],3) by unfold bJ;rw[if_pos a5]];exact Ok.mk ⟨none,0,0,λ_=>False,rfl,aO.nil R,(o.then q).then S,λ_ v=>v.elim⟩
 ·obtain rfl:g=a:=oM
  rw[Qz oM]at w Z p;have a8:K.any fQ=false:=by
   rw[<-Bool.not_eq_true];intro l;obtain⟨h,he,U⟩:=List.any_eq_true.1 l;have:=(w h he).2;unfold fQ at U;simp at U;omega
  rw[show bJ K=(dV K,0) by unfold bJ;rw[if_neg (by simp[a8])]];exact Ok.mk ⟨_,_,_,n,rfl,p,o,x⟩
def eH(no:Int)(f:List UInt8)(D:an):Int×an:=
 let a:=cx (aA no)
 let b:=D.create a
 if b.1≠0 then(b.1,b.2)else
 let c:=b.2.append a f
 if c.1≠0 then(c.1,(c.2.delete a).2)else
 let d:=c.2.sync a
 if d.1≠0 then(d.1,(d.2.delete a).2)else
 let e:=bZ d.2 [no]
 (e.1,if e.1≠0 then(e.2.delete a).2 else e.2)
def MP{D:an}{no:Int}(hL:Laid b)(M:aR b l a D f)(R:aH no)(h:Row fv 1 l a3 d c x)(c3:d=none->c=0/\i=0)(b2:∀e,a3 e->f e):
  Calls XP 143 #[ZQ a,XH no,.slice d c i] l (Ok (mS b l a f (eH no x D))):=by
 have e3:=M.gr.size;have S:∀e,f e->e<l.heap.size:=by obtain⟨a4,f1,f2,T,U⟩:=M;exact U
 refine yj (PA.mk λy k1 s1 g1=>PA.mk λw2 V s2 g2=>PC.ok (iY (hL.ah ((M.gr.then k1).then V)) R) ?_);rintro _ W ⟨rfl,N⟩;have z3:=N.size;refine⟨_,rfl,PA.mk λw4 X s4 g4=>PS.mk g4 sM λY Z s5 g5=>?_⟩
 let t:Nat->Prop:=λe=>f e\/(e=l.heap.size\/e=y.heap.size\/e=W.heap.size)
 have b3:ai l Y:=((((k1.then V).then N).then X)).new Z λe h=>.inr oM;have d0:aR b Y a D t:=M.add b3 λe h=>by omega
 let z:World->Int->Prop:=λk n=>k.heap[l.heap.size]? =some (.cells #[ZQ a] 93 (0,0))/\k.heap[y.heap.size]? =some (.cells #[XH n] 34 (0,0))/\k.heap[W.heap.size]? =some (.cells #[.string (cx (aA no))] 9 (0,0))
 have C5:z Y 0:=⟨Z.get (X.get (N.get (V.get g1 id) id) id) oM,Z.get (X.get (N.get g2 id) id) oM,g5⟩
 have j:∀{k p:World} {n:Int},z k n->ak (dj t) k p->z p n:=λo u=>
  ⟨u.get o.1 λq=>q (.inr (.inl rfl)),u.get o.2.1 λq=>q (.inr (.inr (.inl rfl))),u.get o.2.2 λq=>q (.inr (.inr (.inr rfl)))⟩
 have I:∀{k p:World},ak (dj f) l k->ak (dj t) k p->ak (dj f) l p:=λd e=>d.then (e.mono λe _ h r=>h (.inl r));have g:∀{k:World} {n C:Int} {v:an} {κ:World->Prop},z k n->aR b k a v t->ak (dj f) l k->(∀p,z p C->aR b p a v t->ak (dj f) l p->ak (·=y.heap.size) k p->κ p)->PS k ⟨y.heap.size,0,none⟩ (XH C) κ:=by
  intro k n C v κ o hN u a0;have h1:=ax o.2.1;refine PS.mk o.2.1 sM λp A e4 d1=>a0 p ⟨A.get o.1 oM,d1,A.get o.2.2 oM⟩ ?_ (u.then (A.mono λe _ h r=>by have:=S e r;omega)) A;obtain⟨a4,f1,f2,T,U⟩:=hN;exact⟨a4,f1.af A λe h n=>(T e h).2 (.inr (.inr (.inl n))),f2.new A λe h=>.inr oM,T,λe h=>Qk (U e h) A.size⟩
 have m:∀{J:Int×an} (n:Int) (v:an) (k:World),aR b k a v t->ak (dj f) l k->z k n->J=(n,if n≠0 then(v.delete (cx (aA no))).2 else v)->
   Lv XP (λb4=>∃b5:Int,b4.cell? ⟨y.heap.size,0,none⟩=some (XH b5)/\Ok (mS b l a f J) (.returned (XH b5)) b4) (λch k=>Ok (mS b l a f J) (.panicked ch) k)
    ([{target:=.fn (.func 212) #[ZQ y.heap.size,ZQ l.heap.size,ZQ W.heap.size],args:= #[]}]:List Deferred) .returning k:=by
  intro J n v k q u o hr;refine Lv.one sM kR (CallsD.mono (sW (R:=λC K=>C= .returned (.tuple #[])/\∃b6:Int,K.cell? ⟨y.heap.size,0,none⟩=some (XH b6)/\Ok (mS b l a f J) (.returned (XH b6)) K) ⟨_,ae o.2.1 rfl,al.dB (λs=>⟨_,ae o.1 rfl,_,ae o.2.2 rfl,PC.ok q.delete ?_⟩) (λB=>⟨rfl,_,ae o.2.1 rfl,Ok.mk ?_⟩)⟩) ?_)
  ·rintro _ wb ⟨rfl,d2,kb⟩
   have d3:=j o kb;refine⟨_,rfl,rfl,_,ae d3.2.1 rfl,Ok.mk ?_⟩;rw[hr,if_pos s];exact⟨rfl,d2.mono λe h=>.inl h,I u kb⟩
  ·rw[hr,if_neg (by simpa using B)]
   exact⟨rfl,q.mono λe h=>.inl h,u⟩
  ·rintro C u' K ⟨rfl,rfl,S⟩
   exact Lv.ret rfl S
 refine⟨_,ae C5.1 rfl,_,ae C5.2.2 rfl,PC.ok d0.create ?_⟩;rintro _ w6 ⟨rfl,b7,k6⟩;have C6:=j C5 k6;have d4:=I (ai.af b3) k6;have hW:eH no x D=if(D.create (cx (aA no))).1≠0 then((D.create (cx (aA no))).1,(D.create (cx (aA no))).2)else
   if((D.create (cx (aA no))).2.append (cx (aA no)) x).1≠0 then(((D.create (cx (aA no))).2.append (cx (aA no)) x).1,(((D.create (cx (aA no))).2.append (cx (aA no)) x).2.delete (cx (aA no))).2)else
   if((((D.create (cx (aA no))).2.append (cx (aA no)) x).2).sync (cx (aA no))).1≠0 then(((((D.create (cx (aA no))).2.append (cx (aA no)) x).2).sync (cx (aA no))).1,(((((D.create (cx (aA no))).2.append (cx (aA no)) x).2).sync (cx (aA no))).2.delete (cx (aA no))).2)else
   ((bZ ((((D.create (cx (aA no))).2.append (cx (aA no)) x).2).sync (cx (aA no))).2 [no]).1,if(bZ ((((D.create (cx (aA no))).2.append (cx (aA no)) x).2).sync (cx (aA no))).2 [no]).1≠0 then((bZ ((((D.create (cx (aA no))).2.append (cx (aA no)) x).2).sync (cx (aA no))).2 [no]).2.delete (cx (aA no))).2 else(bZ ((((D.create (cx (aA no))).2.append (cx (aA no)) x).2).sync (cx (aA no))).2 [no]).2):=rfl
 rw[hW];generalize D.create (cx (aA no))=cr at b7⊢;refine⟨_,rfl,g C6 b7 d4 λK E b8 a5 k7=>⟨_,ae E.2.1 rfl,al.dB (λs=>?_) (λB=>?_)⟩⟩
 ·refine⟨_,ae E.2.1 rfl,g E b8 a5 λw8 C8 O a6 k8=>⟨_,ae C8.2.1 rfl,Ok.mk ?_⟩⟩
  rw[if_pos s];exact⟨rfl,O.mono λe h=>.inl h,a6⟩
 rw[if_neg (by simpa using B)];have d5:Row fv 1 K a3 d c x:=h.af a5 λe h q=>q (b2 e h);refine⟨_,ae E.1 rfl,_,ae E.2.2 rfl,PC.ok (b8.append d5 c3 λe h=>.inr (.inl (b2 e h))) ?_⟩;rintro _ w8 ⟨rfl,O,k8⟩;have C8:=j E k8;have a6:=I a5 k8;generalize cr.2.append (cx (aA no)) x=ap at O⊢;refine⟨_,rfl,g C8 O a6 λw9 F b9 c1 k9=>⟨_,ae F.2.1 rfl,al.dB (λs=>?_) (λB=>?_)⟩⟩
 ·refine⟨_,ae F.2.1 rfl,g F b9 c1 λc2 a7 P a1 a8=>?_⟩
  rw[if_pos s];exact m _ _ c2 P a1 a7 (by rw[if_pos s])
 rw[if_neg (by simpa using B)];refine⟨_,ae F.1 rfl,_,ae F.2.2 rfl,PC.ok b9.sync ?_⟩;rintro _ c2 ⟨rfl,P,a8⟩;have a7:=j F a8;have a1:=I c1 a8;generalize ap.2.sync (cx (aA no))=sy at P⊢;refine⟨_,rfl,g a7 P a1 λa9 L b1 c0 e5=>⟨_,ae L.2.1 rfl,al.dB (λs=>?_) (λB=>?_)⟩⟩
 ·refine⟨_,ae L.2.1 rfl,g L b1 c0 λH b0 a2 c5 Q=>?_⟩
  rw[if_pos s];exact m _ _ H a2 c5 b0 (by rw[if_pos s])
 rw[if_neg (by simpa using B)];refine⟨_,ae L.1 rfl,PA.mk λH Q e6 c4=>?_⟩;have a2:aR b H a sy.2 (λe=>t e\/e=a9.heap.size):=b1.add Q λe h=>by subst h;exact⟨Q4 _,ax c4⟩
 have c6:Row aJ 8 H (·=a9.heap.size) (ZX a9.heap.size) 1 [no]:=Row.lit c4 [no] rfl (λc7 r=>by simp at r;subst r;exact R) (by unfold aK;simp);refine PC.ok (a2.bZ hL.oE c6 (λc7 r=>by simp at r;subst r;exact R) λe h=>.inr (.inr h)) ?_;rintro _ d6 ⟨rfl,c8,d7⟩;have w:ak (dj t) H d6:=d7.mono λe _ h hy=>h (.inl hy);have b0:z H sy.1:=j L (ai.af Q);have d8:=j b0 w;have c9:=I (c0.ah Q) w;exact⟨_,rfl,g d8 (c8.mono λe h=>.inl h) c9 λd9 e0 e1 e2 e7=>m _ _ d9 e1 e2 e0 rfl⟩
def qd:List Int->an->an
 |[],D=>D
 |no::a,D=>if(D.delete (gh no)).1≠0 then(D.delete (gh no)).2 else qd a (D.delete (gh no)).2
def ck(a:ej)(D:an)(b:List aj)(c:Int):qe:=
 if(bJ b).2≠0 then⟨(bJ b).2,[],a,D⟩else
 if(eH a.next (bJ b).1 D).1≠0 then⟨(eH a.next (bJ b).1 D).1,[],a,(eH a.next (bJ b).1 D).2⟩else
 ep (qd a.bH (eH a.next (bJ b).1 D).2) c
def JZ(e i:World)(f j:Nat)(k:ej)(c:Nat->Prop)(b:qe)(g:Value)(d:World):Prop:=
 ∃G,iA d f j G k/\(∀a,G a->e.heap.size<=a/\¬c a)/\ak (dj c) i d/\
  ((b.no≠0/\g= .tuple #[.pointer none,XH b.no]/\aR e d f b.D (λa=>c a\/G a))\/
   (b.no=0/\∃h,g= .tuple #[ZQ h,XH 0]/\bX e d f h b.V b.D (λa=>c a\/G a)))
def Hu{D:an}{U a5:Nat}(A:Laid b)(V:bX b l a c b0 D f)(W:Row jj 96 l a3 d U K)(b3:∀g,a3 g->g<l.heap.size)(hl:K.length<=20000000):
  Calls XP 87 #[ZQ a,ZQ c,.slice d U a5,XH e] l (Ok (JZ b l a c b0 f (ck b0 D K e))):=by
 obtain⟨G,I,v,B⟩:=id V;have c4:=v.many;refine t_ (PC.ok (JY (A.ah V.gr) W b3 hl) ?_);rintro _ w1 ⟨b4,n1,c1,F1,rfl,J,q,b5⟩;have hz:∀g,(f g\/G g)->g<l.heap.size:=by obtain⟨d1,f1,f2,f3,f4⟩:=I;exact f4
 refine⟨_,_,_,_,rfl,al.dB (λk=>Ok.mk ?_) (λr=>PC.ok (Pg (v.ah q)) ?_)⟩
 ·rw[show ck b0 D K e=⟨(bJ K).2,[],b0,D⟩ by unfold ck;rw[if_pos k]]
  exact⟨G,v.ah q,B,ai.af q,.inl ⟨k,rfl,I.ah q⟩⟩
 rintro _ _ ⟨rfl,rfl⟩;have b6:aR b w1 a D (λg=>(f g\/G g)\/F1 g):=I.add q λg h=>⟨b5 g h,J.aB g h⟩
 have d2:(bJ K).1.length<=13500000000:=by
  unfold bJ;split
  ·simp
  ·rename_i b8
   have:∀o∈K,o.Ok/\o.aP.length<=64:=λo X=>by
    obtain⟨i,hi⟩:=List.mem_iff_getElem?.1 X;obtain⟨g,w,es,-,-,-,-,b4,n1,c1,-,-,b9⟩:=W.el i o hi;refine⟨b9,?_⟩;have:¬fQ o=true:=λL=>b8 (List.any_eq_true.2 ⟨o,X,L⟩);unfold fQ at this;simp at this;omega
   have:=Ph this;show(dV K).length<=_;omega
 refine⟨_,rfl,PC.ok (MP A b6 v.AH (J.row (bytes:=1) dC (by unfold aK;omega)) (λo=>J.MO o) λg h=>.inr h) ?_⟩;rintro _ Y ⟨rfl,c2,Z⟩;have M:aR b Y a (eH b0.next (bJ K).1 D).2 (λg=>f g\/G g):=c2.mono λg h=>.inl h;have N:=(v.ah q).af Z λg h m=>m (.inl (.inr h));have a6:ak (dj f) l Y:=(ai.af q).then (Z.mono λg _ h n=>h (.inl (.inl n)));have hC:ck b0 D K e=if(eH b0.next (bJ K).1 D).1≠0 then⟨(eH b0.next (bJ K).1 D).1,[],b0,(eH b0.next (bJ K).1 D).2⟩else ep (qd b0.bH (eH b0.next (bJ K).1 D).2) e:=by
  unfold ck;rw[if_neg (by simpa using r)]
 rw[hC];generalize eH b0.next (bJ K).1 D=x at M⊢;refine⟨_,rfl,al.dB (λk=>Ok.mk ?_) (λr=>?_)⟩
 ·rw[if_pos k]
  exact⟨G,N,B,a6,.inl ⟨k,rfl,M⟩⟩
 rw[if_neg (by simpa using r)];refine⟨λp=>aR b p a (qd b0.bH x.2) (λg=>f g\/G g)/\iA p a c G b0/\ak (dj f) l p,PC.ok (Fc N) ?_,?_⟩
 ·rintro _ w3 ⟨a0,t,c3,C,rfl,O,P,c5⟩
  have d3:=O.len dC;have Q:aR b w3 a x.2 (λg=>(f g\/G g)\/C g):=M.add P λg h=>⟨c5 g h,O.aB g h⟩
  refine⟨_,_,_,rfl,λa1 a2 p=>∃(j:Nat) (s:an),a2=j/\j<=t/\a1=t-j/\qd b0.bH x.2=qd (b0.bH.drop j) s/\aR b p a s (λg=>(f g\/G g)\/C g)/\aO aJ 3 C p a0 t c3 b0.bH/\iA p a c G b0/\ak (dj f) l p,
   ⟨_,0,x.2,rfl,Qj _,rfl,rfl,Q,O,N.ah P,a6.ah P⟩,?_⟩
  rintro a1 a2 _ w4 ⟨j,s,rfl,hj,rfl,E,y,R,a7,a8⟩;refine al.dec (λd4=>?_) (λd5=>?_)
  ·have c6:Row aJ 8 w4 C a0 t b0.bH:=R.row dC (by unfold aK;omega)
   obtain⟨g,w,u,rfl,n,c7,L⟩:=c6.l_ (i:=j) oM;refine⟨g,w,rfl,oM,oM,u,L,PC.ok (iY (A.ah y.gr) c7) ?_⟩;rintro _ w5 ⟨rfl,F⟩;refine⟨_,rfl,PC.ok (y.ah F).delete ?_⟩;rintro _ w6 ⟨rfl,S,T⟩;have b7:b0.bH.drop j=u::b0.bH.drop (j+1):=by
    obtain⟨c8,rfl⟩:=Qv.1 n;exact X4 c8
   rw[b7]at E;have H:qd b0.bH x.2=if(s.delete (cx (aA u))).1≠0 then(s.delete (cx (aA u))).2 else qd (b0.bH.drop (j+1)) (s.delete (cx (aA u))).2:=E
   have a9:=(a7.ah F).af T λg h m=>m (.inl (.inr h));have a4:ak (dj f) l w6:=(a8.ah F).then (T.mono λg _ h n=>h (.inl (.inl n)));have c9:=(R.ah F).af T λg h m=>m (.inr h);generalize s.delete (cx (aA u))=c0 at H S⊢;refine⟨_,rfl,al.dB (λk=>?_) (λr=>?_)⟩
   ·rw[H,if_pos k]
    exact⟨S.mono λg h=>.inl h,a9,a4⟩
   ·rw[if_neg (by simpa using r)]at H
    exact⟨t-(j+1),oM,j+1,c0.2,aq oM,oM,rfl,H,S,c9,a9,a4⟩
  ·obtain rfl:j=t:=oM
   rw[List.drop_of_length_le oM]at E;rw[E];exact⟨y.mono λg h=>.inl h,a7,a8⟩
 ·rintro _ w3 ⟨Q,b1,b2⟩
  refine PC.ok (Hv (size:=e) A Q) ?_;rintro _ w4 (⟨k,rfl,y,z⟩|⟨r,q2,d6,n4,d7,G4,rfl,R,d0,z,-,-,-⟩)
  ·exact⟨_,_,_,_,_,rfl,Ok.mk ⟨G,b1.af z λg h m=>m (.inr h),B,b2.then (z.mono λg _ h n=>h (.inl n)),.inl ⟨k,rfl,y⟩⟩⟩
  ·exact⟨_,_,_,_,_,rfl,Ok.mk ⟨G,b1.af z λg h m=>m (.inr h),B,b2.then (z.mono λg _ h n=>h (.inl n)),.inr ⟨r,q2,rfl,d0.mono λg h=>.inl h⟩⟩⟩
def jr(D:an)(a:ByteArray):Bool:=decide (a=k_)||((lG a).2&& !decide ((lG a).1∈(eQ D).getD []))
def JK(D:an):List ByteArray:=D.list.filter (jr D)
def UP(D:an)(a:List ByteArray):an:=a.foldl (λD b=>(D.delete b).2) D
def Ae(D:an):an:=UP D (JK D)
def Af(a:List ByteArray):List (List Value):=a.map λb=>[.string b]
def Pe(D:an)(a:List (List Value)):an:=a.foldl (λD b=>match b with
 |[.string c]=>(D.delete c).2
 |_=>D) D
def Dd:∀(a:List ByteArray) (D:an),Pe D (Af a)=UP D a
 |[],D=>rfl
 |s::a,D=>Dd a (D.delete s).2
def MH(D:an)(a:List (List Value))(b:ByteArray):Pe D (a++[[.string b]])=((Pe D a).delete b).2:=by
 unfold Pe;rw[List.foldl_append];rfl
def Df(a:List ByteArray)(b:ByteArray):Af (a++[b])=Af a++[[.string b]]:=by unfold Af;simp
def Ce{D:Nat->Prop}(g:Row aJ 8 b D d a t):
  Calls XP 265 #[.slice d a c,XH e] b (Ok λq j=>(∃n:Int,q= XH n/\(0<=n↔e∈t))/\b=j):=by
 have x:=g.len;have r:=g.dN;unfold aK at r;refine nw ⟨λo i j=>∃f:Nat,i=f/\f<=a/\o=a-f/\e∉t.take f/\b=j,⟨_,0,rfl,Qj _,rfl,sM,rfl⟩,?_⟩;rintro o i _ _ ⟨f,rfl,y,rfl,k,rfl⟩;refine al.dec (λs=>?_) (λs=>?_)
 ·obtain⟨u,l,z,rfl,p,_,v⟩:=g.l_ (i:=f) oM
  refine⟨u,l,rfl,oM,oM,_,v,al.dA (λm=>?_) (λm=>?_)⟩
  ·exact Ok.mk ⟨⟨_,rfl,λ_=>m▸QZ p,λ_=>oM⟩,rfl⟩
  ·refine⟨_,oM,f+1,aq oM,oM,rfl,?_,rfl⟩
   rw[Qw,p];intro w;rcases Q6.1 w with h|h
   ·exact k h
   ·simp at h;exact m h
 ·rw[Qz oM]at k
  exact Ok.mk ⟨⟨_,rfl,λh=>oM,λh=>absurd h k⟩,rfl⟩
def vQ{D:Nat->Prop}(f:Row aJ 8 b D d a t):
  Calls XP 209 #[.slice d a c,XH e] b (Ok λg h=>g= .bool (decide (e∈t))/\b=h):=by
 refine kJ (PC.ok (Ce f) ?_);rintro _ _ ⟨⟨j,rfl,i⟩,rfl⟩;exact⟨_,rfl,Ok.mk ⟨by rw[decide_eq_decide.2 i],rfl⟩⟩
section
variable {w0 w w1 w':World} {p:Nat} {D D':an} {X Y:Nat->Prop}
def aR.lt(b:aR w0 w p D X):∀a,X a->a<w.heap.size:=by obtain⟨d,e,f,g,c⟩:=b;exact c
def MI(j:aR w0 w p D X)(t:pN w0):Calls XP 140 #[ZQ p] w (Ok λu w'=>∃k l e f g,∃Y G:Nat->Prop,u= .func (.func 208) #[] #[ZQ k,ZQ l]/\
  (∃h m,w'.heap[k]? =some (.cells #[ZQ p] h m))/\(∃h m,w'.heap[l]? =some (.cells #[.slice e f g] h m))/\aO aJ 3 G w' e f g ((eQ D).getD [])/\Y k/\Y l/\(∀b,G b->Y b)/\aR w0 w' p D (λb=>X b\/Y b)/\ai w w'):=by
 have B:=j.gr.size;refine ye (PA.mk λw1 o C q=>⟨_,ae q rfl,PC.ok ((j.add o (Y:=(·=w.heap.size)) λb a=>⟨oM,oM⟩).js t) ?_⟩);rintro _ c ⟨e,f,g,G,rfl,r,E,v,n⟩;refine⟨_,_,_,_,rfl,PA.mk λF i H x=>PS.mk x sM λI d J y=>Ok.mk ⟨w.heap.size,c.heap.size,e,f,g,λb=>(b=w.heap.size\/G b)\/b=c.heap.size,G,rfl,?_⟩⟩;have K:=n.size;have z:w.heap.size≠c.heap.size:=oM
 have s:∀b,G b->b<c.heap.size:=r.aB;have A:=v.add i (Y:=(·=c.heap.size)) λb a=>⟨oM,oM⟩
 refine⟨⟨_,_,d.get (i.get (n.get q id) id) z⟩,⟨_,_,y⟩,(r.ah i).af d (λb a h=>by have:=s b a;omega),.inl (.inl rfl),.inr rfl,λb a=>.inl (.inr a),?_,?_⟩
 ·refine A.d_ d (λb a=>⟨.inr a,oM⟩) λb a=>⟨.inl ?_,?_⟩
  ·rcases a with a|(a|a)|a
   ·exact .inl (.inl (.inl a))
   ·exact .inl (.inl (.inr a))
   ·exact .inl (.inr a)
   ·exact .inr a
  ·have:=d.size
   rcases a with a|(a|a)|a
   ·have:=j.lt b a;omega
   ·omega
   ·have:=s b a;omega
   ·omega
 ·exact ak.new ((o.then n).then i) d λb a=>.inr oM
def CJ(w0 b:World)(p:Nat)(D:an)(f:Nat->Prop)(c:World×(Nat->Prop))(d:List (List Value))(e:World):Prop:=
 aR w0 e p (Pe D d) (λa=>(f a\/(b.heap.size<=a/\a<b.heap.size+2))\/c.2 a)/\ak (dj f) b e/\ak (dj c.2) c.1 e/\∀a,c.2 a->b.heap.size+2<=a
variable {w5:World} {X5:Nat->Prop} {s:World×(Nat->Prop)} {pre:List (List Value)} {A B:World}
def CJ.ah(a:CJ w0 w5 p D X5 s pre A)(b:ai A B):CJ w0 w5 p D X5 s pre B:=⟨a.1.ah b,a.2.1.ah b,a.2.2.1.ah b,a.2.2.2⟩
def CJ.d_(f:ai w0 w5)(g:CJ w0 w5 p D X5 s pre A)(h:pO (w5.heap.size+1) A B):CJ w0 w5 p D X5 s pre B:=by
 obtain⟨d,i,j,e⟩:=g;obtain⟨c,k⟩:=h;have:=f.size;refine⟨d.d_ c (λa b=>⟨.inl (.inr ⟨oM,oM⟩),oM⟩) λa b=>⟨.inl b,by rw[k];exact d.lt a b⟩,i.new c λa b=>.inr oM,j.new c λa b=>.inl λl=>?_,e⟩;have:=e a l;omega
def Hk{G:Nat->Prop}{R:World->Prop}(X:Laid w0)(a5:∀b,X5 b->b<w5.heap.size)(t:∃u v,w5.heap[a]? =some (.cells #[ZQ p] u v))(Y:X5 a)(w:∃u v,w5.heap[c]? =some (.cells #[.slice d i k] u v))(Z:X5 c)(hl:aO aJ 3 G w5 d i k ((eQ D).getD []))(hG:∀b,G b->X5 b)(F:∀A B,R A->ak (nx w5) A B->R B)(H:∀s pre x A,CJ w0 w5 p D X5 s pre A->R A->sR [.string ⟨#[]⟩] x->jt XP (w5.heap.size+1) x A λb o=>b=true/\CJ w0 w5 p D X5 s (pre++[x]) o/\R o)(y:CJ w0 w5 p D X5 (w5,no) [] w1)(a0:R w1)(a1:w5.heap.size+2<=w1.heap.size):
  Calls XP 208 #[.func (.yield (w5.heap.size+1)) #[] #[],ZQ a,ZQ c] w1 (Ok λa4 w'=>R w'/\∃s,CJ w0 w5 p D X5 s (Af (JK D)) w'):=by
 obtain⟨e2,f2,t⟩:=t;obtain⟨e4,f4,w⟩:=w;have I:aR w0 w1 p D _:=y.1;refine sS ⟨_,ae (y.2.1.get t λf=>f Y) rfl,PC.ok I.list ?_⟩;rintro _ z ⟨a8,J,c8,K,rfl,L,a2,h8,M⟩;have a6:D.list.length<=64:=by rw[ny];exact I.ok.many
 have a7:=L.len dC;have a3:CJ w0 w5 p D X5 (z,K) [] z:=⟨h8.mono λb g=>g.elim (λh=>.inl (.inl h)) .inr,y.2.1.ah M,ak.refl _,λb g=>Xx a1 (a2 b g)⟩
 refine⟨_,_,_,rfl,λN O w'=>∃e:Nat,O=e/\e<=J/\N=J-e/\CJ w0 w5 p D X5 (z,K) (Af ((D.list.take e).filter (jr D))) w'/\R w',⟨_,0,rfl,Qj _,rfl,a3,F _ _ a0 (ai.af M)⟩,?_⟩;rintro N O _ a9 ⟨e,rfl,hj,rfl,m,P⟩;refine al.dec (λb0=>?_) (λb1=>?_)
 ·obtain⟨b,C,s,rfl,Q,_,n⟩:=((L.af m.2.2.1 λb g f=>f g).row (bytes:=16) dC (by unfold aK;omega)).l_ (i:=e) oM
  refine⟨b,C,rfl,oM,oM,_,n,PC.ok (Ag (X.ah m.1.gr)) ?_⟩;rintro _ b2 ⟨rfl,S⟩;have l:=m.ah S;have q:=F _ _ P (ai.af S);have T:sR [.string ⟨#[]⟩] [.string s]:=λφ h=>h s;have U:jr D s=true->(D.list.take (e+1)).filter (jr D)=(D.list.take e).filter (jr D)++[s]:=λh=>by
   rw[Qw,Q,List.filter_append];simp[h]
  have V:jr D s=false->(D.list.take (e+1)).filter (jr D)=(D.list.take e).filter (jr D):=λh=>by
   rw[Qw,Q,List.filter_append];simp[h]
  refine⟨_,_,rfl,al.Wv (λhe=>?_) (λW=>al.mk (λr=>?_) (λr=>?_))⟩
  ·refine⟨_,rfl,(H _ _ _ _ l q T).mono ?_⟩
   rintro _ o ⟨rfl,j,E⟩;refine al.ff rfl ⟨_,?_,e+1,aq oM,oM,rfl,?_,E⟩
   ·omega
   ·rw[U (by unfold jr;rw[show s=k_ from he];simp),Df];exact j
  ·refine⟨_,_,_,ae (l.2.1.get w λf=>f Z) rfl,PC.ok (vQ ((hl.af l.2.1 λb g f=>f (hG b g)).row (bytes:=8) dC (by have:=Dg (D:=D);unfold aK;omega))) ?_⟩
   rintro _ _ ⟨rfl,rfl⟩;refine⟨_,rfl,al.mk (λn=>?_) (λn=>?_)⟩
   ·refine⟨_,rfl,(H _ _ _ _ l q T).mono ?_⟩
    rintro _ o ⟨rfl,j,E⟩;refine al.ff rfl ⟨_,?_,e+1,aq oM,oM,rfl,?_,E⟩
    ·omega
    ·rw[U (by unfold jr;rw[r,n];simp),Df];exact j
   ·refine⟨_,?_,e+1,aq oM,oM,rfl,?_,q⟩
    ·omega
    ·rw[V (by unfold jr;rw[r,n,Xv (show¬s=k_ from W)];rfl)];exact l
  ·refine⟨_,?_,e+1,aq oM,oM,rfl,?_,q⟩
   ·omega
   ·rw[V (by unfold jr;rw[r,Xv (show¬s=k_ from W)];rfl)];exact l
 ·rw[Qz oM]at m
  exact Ok.mk ⟨P,_,m⟩
def MJ(t:Laid w0)(d:aR w0 w p D X):Calls XP 86 #[ZQ p] w (Ok λj w'=>j= .tuple #[]/\aR w0 w' p (Ae D) X/\ak (dj X) w w'):=by
 have a6:=d.gr.size;refine yh (PA.mk λw1 u s1 v=>⟨_,ae v rfl,PC.ok (MI (d.add u (Y:=(·=w.heap.size)) λa b=>⟨oM,oM⟩) t.oE) ?_⟩);rintro _ w5 ⟨b2,b4,a0,a1,a2,Y,G,rfl,E,F,H,I,J,K,k,l⟩;have L:=l.get v id;have m:=k.gr;have z5:=l.size;refine⟨_,rfl,208,_,rfl,kR,World×(Nat->Prop),(w5,no),CJ w0 w5 p D λa=>(X a\/a=w.heap.size)\/Y a,λ_ _ _=>False,λ_ _=>True,λn=>n=Af (JK D),?_,λs pre A B e f=>e.d_ m f,λ_ _ _ _ d _=>d,?_,?_,?_,trivial⟩
 ·intro M o s6
  exact⟨(k.add o (Y:=λa=>w5.heap.size<=a/\a<w5.heap.size+2) λa b=>⟨b.1,oM⟩).mono λa b=>b.elim id False.elim,ai.af o,ai.af o,λa b=>b.elim⟩
 ·intro s pre A e a7 a8 _
  refine⟨ak.refl _,λa9 f=>?_⟩;obtain⟨g,i,x,y⟩:=e.d_ m f;refine⟨_,ae (i.get L λc=>c (.inl (.inr rfl))) rfl,PC.ok g.delete ?_⟩;rintro _ b0 ⟨rfl,N,q⟩;refine⟨_,rfl,q.mono λa _ c=>⟨λO=>c (.inl (.inr ⟨oM,oM⟩)),λO=>c (.inl (.inr ⟨oM,oM⟩))⟩,?_⟩;show CJ _ _ _ _ _ _ _ _;refine⟨by rw[MH];exact N,i.new q λa c=>.inl λh=>c (.inl (.inl h)),x.new q λa c=>.inl λh=>c (.inr h),y⟩
 ·intro P Rx Q _ R S M T z
  refine Calls.mono (Hk (R:=P) t k.lt E (.inr I) F (.inr J) H (λa b=>.inr (K a b)) Q (λs pre U A e V f=>(S s pre U A e V f trivial).mono ?_) T z (R _ z)) ?_
  ·rintro a W (d|⟨-,a3,d,-⟩)
   ·exact d
   ·exact d.elim
  ·rintro _ W ⟨j,rfl,Z,s,r⟩
   exact⟨⟨j,rfl⟩,.inl ⟨Z,s,_,r,rfl⟩⟩
 ·rintro s _ A ⟨g,i,x,y⟩ rfl hm
  refine⟨hm,λb1 ⟨C,a5⟩=>Ok.mk ⟨rfl,?_,?_⟩⟩
  ·rw[Dd]at g
   exact(g.d_ C (λa b=>⟨.inl (.inr ⟨oM,oM⟩),by have:=m.size;omega⟩) λa b=>⟨.inl b,by rw[a5];exact g.lt a b⟩).mono λa b=>.inl (.inl (.inl (.inl b)))
  ·exact ak.new (ak.new (ai.af (u.then l)) i λa c=>.inl λh=>c (.inl (.inl h))) C λa b=>.inr oM
end
end Go.Proofs.YtjgjkeponbeekaaGreatDoor
namespace Go.Proofs
open Go.RowKit Go.Maps Go.Sort Go.Shelf
def Tryz.Us(d:Nat):AnyZI.SortsIn Tryz.prog Tryz.xQ Fence.wide d:=
 ⟨λaF b a e c f g h=>callsIn_wide.2 (AnyM.slices_Sort_int Tryz.vk aF b a e c f g h),
  λi a c=>callsIn_wide.2 (AnyM.slices_Sort_int_none Tryz.vk i a c)⟩
end Go.Proofs
namespace Go.Proofs.YtjgjkeponbeekaaGreatDoor
open Go.ar
open Go.RowKit Go.Maps Go.Sort Go.Shelf
def vk(a:List Int):List Int:=a.mergeSort (λb c=>decide (b<=c))
variable{g4:List (Int×Value)}{a c:Nat}{E:Nat×Nat}{g:TypeId}{b:World}
def yR(x:bD b a (Value.int .i64) g4)(I:∀i∈g4,aH i.1)(y:g4.length*8<=aK)(z:b.heap[c]? =some (.cells #[.map (some a)] g E)):
  Calls XP 197 #[.func (.func 250) #[] #[ZQ c]] b
   (Ok λq A=>Gm b 3 (vk (g4.map (·.1))) q A):=by
 unfold aK at y;obtain⟨f,j,J,n,K,L⟩:=x.at';have M:Tryz.prog.underlying 3=some (.int .i64):=Tryz.underlying3;have N:f.size=g4.length:=by have:=congrArg List.length n;simpa using this
 have O:∀d:Int,aH d->(Lit.int .i64 d).wf=true:=λd k=>by unfold aH at k;simp[Lit.wf,IntKind.min,IntKind.max,IntKind.signed,IntKind.bits];omega
 have B:∀e∈f.toList,∃d,e.key=Value.int .i64 d/\aH d:=λe h=>by
  have P:(e.key,e.val)∈g4.map (λi=>(Value.int .i64 i.1,i.2)):=by rw[<-n];exact Xk.2 ⟨e,h,rfl⟩
  obtain⟨i,Q,R⟩:=Xk.1 P;exact⟨i.1,(Prod.mk.inj R).1.symm,I i Q⟩
 have C:∀e∈f.toList,∀d,e.key=Value.int .i64 d->aH d->WideElems.rd XP 3 (λ_=>some ((.nil:DataW Unit),[])) e=some (.int .i64 d,.nil):=λe _ d k l=>by
  simp[WideElems.rd,k,Maps.keyOf_int_mk M (O d l)]
 have S:WideElems.Fit XP 3 (λ_=>some ((.nil:DataW Unit),[])) f j:=by
  refine⟨by unfold maxLen;omega,⟨K,L,?_⟩,λe h=>?_⟩
  ·have:f.toList.map (·.key)=(g4.map (·.1)).map (Value.int .i64):=by
    have:=congrArg (List.map (λr:Value×Value=>r.1)) n;simpa[Function.comp_def]using this
   rw[this];exact List.pairwise_map.2 (List.Pairwise.imp (λT=>by simpa using T) x.tidy)
  ·obtain⟨d,k,l⟩:=B e h
   exact⟨_,C e h d k l⟩
 have U:b.ownsMap XP 3 (λ_=>some ((.nil:DataW Unit),[])) a f.size (.map ((f.toList.map (WideElems.rg XP 3 (λ_=>some ((.nil:DataW Unit),[])))).foldr DataW.insert [])):=
  ⟨f,j,J,S,Q4 _,rfl⟩
 have F:Maps.size (.map ((f.toList.map (WideElems.rg XP 3 (λ_=>some ((.nil:DataW Unit),[])))).foldr DataW.insert []))=g4.length:=by
  show(List.foldr DataW.insert [] _).length=_;rw[(WideShapes.sorted_perm _).length_eq];simp[N]
 have V:(intKeys (.map ((f.toList.map (WideElems.rg XP 3 (λ_=>some ((.nil:DataW Unit),[])))).foldr DataW.insert []))).Perm (g4.map (·.1)):=by
  refine(List.Perm.map (λi:Lit×DataW Unit=>Go.intOf i.1) (WideShapes.sorted_perm _)).trans ?_;have:(f.toList.map (WideElems.rg XP 3 (λ_=>some ((.nil:DataW Unit),[])))).map (λi=>Go.intOf i.1)=g4.map (·.1):=by
   have W:f.toList.map (λe=>match e.key with| .int _ d=>d|_=>0)=g4.map (·.1):=by
    have:=congrArg (List.map (λr:Value×Value=>match r.1 with| .int _ d=>d|_=>0)) n;simpa[Function.comp_def]using this
   rw[<-W,List.map_map];refine List.map_congr_left λe h=>?_;obtain⟨d,k,l⟩:=B e h;simp[WideElems.rg,C e h d k l,k,Go.intOf]
  rw[this]
 have X:SeqGives Fence.wide 1 XP 250 #[ZQ c] encZ (λm=>m.Perm (intKeys _)) (Maps.size _) b:=
  AnyZI.keys_gives (ρ:=Tryz.Ed) {Tryz.Vy with} Fence.wide _ trivial rfl oM c a f.size _ b (ax z) (ae z rfl) U
 have Y:=AnyZI.sorted_in Tryz.SE Fence.wide 4 trivial trivial trivial trivial rfl oM (Tryz.Us _) (enters_of Tryz.func249 kR rfl) 250 #[ZQ c] trivial
  (enters_of Tryz.func250 kR rfl) _ _ (by rw[F];unfold maxLen;omega) (by rw[F];exact y) b X
 refine((callsIn_wide (n:=4)).1 Y).mono ?_;rintro e A ⟨q,m,rfl,Z,o,a5,s⟩;have H:m.mergeSort (λd a0=>decide (d<=a0))=vk (g4.map (·.1)):=mergeSort_of_perm_i (Z.trans V);have a6:m.length=(vk (g4.map (·.1))).length:=by rw[<-H];simp
 rw[H]at o;have hv:∃t u,q= .slice t m.length u:=by
  rcases o.2 with⟨rfl,h0⟩|⟨g',v,w,rfl,_⟩
  ·exact⟨none,0,by rw[h0]⟩
  ·exact⟨_,_,rfl⟩
 obtain⟨t,u,rfl⟩:=hv;refine Ok.mk ⟨t,_,u,rfl,⟨ownsRow_base_a o (Qj _)⟩,ak.GF s,λa1 p=>?_⟩;rcases o.2 with⟨h,_⟩|⟨g',v,w,h,a7,_⟩
 ·simp only[XX]at h
  rw[h.1]at p;cases p
 ·simp only[XX]at h
  rw[h.1]at p;simp only[aF,Q1]at p;omega
end Go.Proofs.YtjgjkeponbeekaaGreatDoor
namespace Go.Proofs.YtjgjkeponbeekaaGreatDoor
open Go.ar
structure jm where
 cP:Int
 asked:List (Int×Int)
 heard:List (Int×List Int)
 deriving DecidableEq
def WN(a:Value)(b:Int):Prop:=a= XH b
def NR(f:World)(g:Nat->Prop)(h:Value)(c:List Int):Prop:=
 ∃a b d,h= .slice a b d/\Own f 3 1 a b d (ints c)/\b*8<=aK/\(∀i∈c,aH i)/\∀e,aF a=some e->g e
def NR.af{S d F':Nat->Prop}{c g:World}{h:Value}{i:List Int}(e:NR c d h i)(n:ak S c g)(o:∀a,d a->a<c.heap.size->(∃j,c.heap[a]? =some j/\∀k l,j≠.map k l)->¬S a)(p:∀a,d a->F' a):NR g F' h i:=by
 obtain⟨q,r,s,rfl,f,b,t,m⟩:=e;refine⟨q,r,s,rfl,f.af n (cT.2 λa b=>?_),b,t,λa b=>p a (m a b)⟩;refine o a (m a b) (f.lt b) ?_;rcases f.cases with⟨rfl,_⟩|⟨w,u,rfl,v,_⟩
 ·cases b
 ·simp only[aF,Q1]at b
  subst b;exact⟨_,v,λk l e=>by cases e⟩
structure dy (w:World) (p:Nat) (F:Nat->Prop) (T:jm):Prop where
 body:∃ra rh la lh,w.heap[p]? =some (.cells #[XH T.cP,.map (some ra),.map (some rh)] 151 (0,0))/\bD w ra (Value.int .i64) la/\bD w rh (Value.int .i64) lh/\
  eT WN la T.asked/\eT (NR w F) lh T.heard/\F ra/\F rh/\ra≠rh
 self:F p
 aB:∀b,F b->b<w.heap.size
 IF:Tidy T.asked
 se:∀q∈T.asked,aH q.1
variable{s:Ending->World->Prop}{A U b2 e m:Int}{h3:List (Int×List Int)}{g4:List (Int×Value)}{a8 t:List Int}{b1:List bR}{C a c i k:Nat}{f:Nat->Prop}{d d1 r:Option Addr}{h:Program}{j:Type}{g q:TypeId}{v:Value}{b l:World}{b6:jm}
def dy.af{S g:Nat->Prop}(c:dy b a g b6)(e:ak S b l)(f:∀d,g d->¬S d):dy l a g b6:=by
 obtain⟨k,m,n,o,p,q,r,s,t,i,j,u⟩:=c.body;exact⟨⟨k,m,n,o,e.get p (f _ c.self),q.af e (f _ i),r.af e (f _ j),s,t.mono λw x v=>v.af e (λd h _ _=>f d h) (λ_ c=>c),i,j,u⟩,
  c.self,λd h=>Qk (c.aB d h) e.size,c.IF,c.se⟩
def dy.ah(c:dy b a f b6)(d:ai b l):dy l a f b6:=c.af d λ_ _ c=>c
def kI:im XP 3 (Value.int .i64):=UF Tryz.underlying3
def mA:lx XP 148 3 3 (XH 0):=⟨kR,kR⟩
def mH:lx XP 149 3 42 (.slice none 0 0):=⟨kR,kR⟩
def Ij:Calls XP 45 #[XH e] b
  (Ok λj f=>∃g h,j= ZQ g/\dy f g h ⟨e,[],[]⟩/\ai b f/\∀a,h a->b.heap.size<=a):=by
 refine Ch (PA.mk λk l r m=>PA.mk λn i s o=>PA.mk λp c t q=>Ok.mk ⟨n.heap.size,λa=>b.heap.size<=a/\a<p.heap.size,rfl,
  ⟨⟨b.heap.size,k.heap.size,[],[],q,bD.new (c.get (i.get m id) id),bD.new (c.get o id),trivial,trivial,oM,oM,oM⟩,oM,λa d=>d.2,by simp[Tidy],sM⟩,
  (l.ah i).ah c,λa d=>d.1⟩)
def Ir(c:dy b a f b6)(u:aH e):
  Calls XP 82 #[ZQ a,XH e,XH m] b
   (Ok λq k=>q= .tuple #[]/\dy k a f {b6 with asked:=aI b6.asked e m}/\ak f b k):=by
 obtain⟨d,v,L,w,l,r,x,y,z,s,A,t⟩:=c.body;have B:∃g h,b.heap[d]? =some (.map g h):=by obtain⟨g,h,c,_⟩:=r.at';exact⟨g,h,c⟩
 obtain⟨g,h,n⟩:=B;have C:a≠d:=by rintro rfl;rw[l]at n;cases n
 refine oL ⟨a,0,rfl,some d,ae l rfl,cW mA kI r λk E i F=>Ok.mk ⟨rfl,⟨⟨d,v,_,w,i.get l C,E,x.af i (Ne.symm t),eT.aI (R:=WN) rfl y,?_,s,A,t⟩,c.self,?_,c.IF.aI _ _,?_⟩,i.mono ?_⟩⟩
 ·refine z.mono λq M H=>H.af i (λo _ _ j=>?_) (λ_ c=>c)
  rintro rfl;obtain⟨N,j,I⟩:=j;rw[n]at j;cases j;exact I _ _ rfl
 ·intro o J;rw[F];exact c.aB o J
 ·intro K p
  rcases eM p with rfl|p
  ·exact u
  ·exact c.se K p
 ·rintro o _ rfl;exact s
def jm.all(b:jm)(a:Int)(c:List Int):List Int:=jF ((aE b.heard a).getD []) c
def Gj(b a:List Int):Bool:=lA b a==0||lA b a==2
def jm.ends(c:jm)(a:Int)(d b:List Int):Bool:=(aE c.asked a).isSome&&Gj (c.all a d) b
def jm.yQ(b:jm)(a:Int)(d c:List Int):jm:=
 {b with heard:=aI b.heard a (b.all a d),asked:=if b.ends a d c then bV b.asked a else b.asked}
def BC(c:∀d∈t,aH d)(a:Int):aH (fh t a):=by
 unfold fh;split
 ·unfold aH;omega
 ·by_cases b:a.toNat<t.length
  ·have:=c t[a.toNat] (XY b)
   simp only[List.getD,Qq b,Option.getD_some];unfold aH at*;omega
  ·have:t[a.toNat]? =none:=by simp;omega
   simp only[List.getD,this,Option.getD_none];unfold aH;omega
def DW(c:∀a∈t,aH a)(d:∀a∈a8,aH a):∀a∈jF t a8,aH a:=by
 intro a e;obtain⟨b,_,rfl⟩:=Xk.1 e;have f:=BC c b;have g:=BC d b;unfold aH at*;omega
def Gk(a b:List Int):(jF a b).length=max a.length b.length:=sd _ _ _
def dy.Sy(k:eT (NR b f) g4 h3)(a:Int):
  ∃c d e,(aE g4 a).getD (.slice none 0 0)= .slice c d e/\Ints b c d ((aE h3 a).getD [])/\d*8<=aK/\∀i,aF c=some i->f i:=by
 rcases k.aE a with⟨g,h⟩|⟨o,p,g,h,c,d,e,rfl,l,j,m,n⟩
 ·rw[g,h];exact⟨none,0,0,rfl,Ints.nil b,by simp[aK],by simp[aF]⟩
 ·rw[g,h];exact⟨c,d,e,rfl,l.ints j m,j,n⟩
def Ie(g:dy b a f b6)(M:Ints b d c t)(hy:Ints b r i a8)(W:a8≠[]->ou f r):
  Calls XP 120 #[ZQ a,XH e,.slice d c k,.slice r i C] b
   (Ok λu s=>∃F',u= .bool (b6.ends e t a8)/\dy s a F' (b6.yQ e t a8)/\bK f b F' s):=by
 obtain⟨q,w,H,lh,I,z,X,N,h5,Y,O,P⟩:=g.body;obtain⟨n,o,Q⟩:∃n o,b.heap[w]? =some (.map n o):=by obtain⟨n,o,g,_⟩:=X.at';exact⟨n,o,g⟩
 obtain⟨c9,d0,a6⟩:∃n o,b.heap[q]? =some (.map n o):=by obtain⟨n,o,g,_⟩:=z.at';exact⟨n,o,g⟩
 have b7:a≠w:=by rintro rfl;rw[I]at Q;cases Q
 have b8:a≠q:=by rintro rfl;rw[I]at a6;cases a6
 obtain⟨ha,hn,hc,hg,R,hB,hF⟩:=dy.Sy h5 e;refine oN ⟨a,0,rfl,some w,ae I rfl,yZ mH kI X ⟨ha,hn,hc,hg,PC.ok (Ad R M) ?_⟩⟩;rintro _ w1 ⟨x,A,S,rfl,Z,v,a7⟩;have b9:A=(b6.all e t).length:=by have:=Z.length;rw[iQ,Nat.mul_one]at this;exact this.symm
 have a9:A*8<=aK:=by
  rw[b9];unfold jm.all;rw[Gk];have:=R.len;have:=R.dN;have:=M.len;have:=M.dN;unfold aK at*;omega
 have b0:∀c0∈b6.all e t,aH c0:=DW R.To M.To;refine⟨x,A,S,rfl,a,0,rfl,some w,ae (v.get I id) rfl,cW mH kI (X.af v id) λl b1 B c1=>?_⟩;have J:aF x≠some w:=λm=>by have:=a7 _ m;have:=ax Q;omega
 have b2:Own l 3 1 x A S (ints (b6.all e t)):=Z.af B (cT.2 λr W=>by rintro rfl;exact J W);have c2:Ints l r i a8:=(hy.ah v).GG B λc3 a0 hq=>by rintro rfl;exact W c3 a0 hq O
 refine PC.ok (Me (b2.ints a9 b0) c2) ?_;rintro _ _ ⟨rfl,rfl⟩;have T:l.heap[a]? =some (.cells #[XH b6.cP,.map (some q),.map (some w)] 151 (0,0)):=B.get (v.get I id) b7;have U:bD l q (Value.int .i64) H:=(z.af v id).af B P;refine⟨_,rfl,?_⟩
 let F':Nat->Prop:=λh=>f h\/(b.heap.size<=h/\h<w1.heap.size)
 have a1:bK f b F' l:=⟨(v.af (S:=f)).trans B (λ_ _ g=>g) (by rintro h _ rfl;exact O),λh p=>p.imp id (·.1)⟩
 have b3:eT (NR l F') (aI lh e (.slice x A S)) (aI b6.heard e (b6.all e t)):=by
  refine eT.aI ⟨x,A,S,rfl,b2,a9,b0,λh p=>.inr ⟨a7 h p,Z.lt p⟩⟩ (h5.mono λu ys K=>?_);refine(K.af v (F':=f) (λ_ _ _ _ g=>g) (λ_ g=>g)).af B (λh _ _ j=>?_) (λ_ g=>.inl g);rintro rfl;obtain⟨c4,j,J⟩:=j;rw[v.get Q id]at j;cases j;exact J _ _ rfl
 have b4:∀h,F' h->h<l.heap.size:=λh p=>by
  rw[c1];rcases p with p|p
  ·exact Qk (g.aB h p) v.size
  ·exact p.2
 have c5:dy l a F' {b6 with heard:=aI b6.heard e (b6.all e t)}:=
  ⟨⟨q,w,H,_,T,U,b1,N,b3,.inl Y,.inl O,P⟩,.inl g.self,b4,g.IF,g.se⟩
 have a2:(aE H e).isSome=(aE b6.asked e).isSome:=by
  rcases N.aE e with⟨E,V⟩|⟨u,b5,E,V,_⟩<;>rw[E,V]<;>rfl
 have c6:∃h:Int,(aE H e).getD (XH 0)= XH h:=by
  rcases N.aE e with⟨E,V⟩|⟨u,b5,E,V,K⟩
  ·rw[E];exact⟨0,rfl⟩
  ·rw[E];exact⟨b5,K⟩
 obtain⟨k0,c7⟩:=c6;have no:b6.ends e t a8=false->Ok (λu s=>∃F',u= .bool (b6.ends e t a8)/\dy s a F' (b6.yQ e t a8)/\bK f b F' s) (.returned (.bool false)) l:=λm=>
  Ok.mk ⟨F',by rw[m],by unfold jm.yQ;rw[m];exact c5,a1⟩
 have a3:∀y,b6.ends e t a8=true->bD y q (Value.int .i64) (bV H e)->ak (·=q) l y->y.heap.size=l.heap.size->
   Ok (λu s=>∃F',u= .bool (b6.ends e t a8)/\dy s a F' (b6.yQ e t a8)/\bK f b F' s) (.returned (.bool true)) y:=λy m hm F a5=>by
  obtain⟨d1,d2,c8⟩:∃n o,l.heap[q]? =some (.map n o):=by obtain⟨n,o,g,_⟩:=U.at';exact⟨n,o,g⟩
  refine Ok.mk ⟨F',by rw[m],?_,a1.af.trans F (λ_ _ g=>g) (by rintro h _ rfl;exact Y),a1.new⟩;unfold jm.yQ;rw[m];refine⟨⟨q,w,_,_,F.get T b8,hm,b1.af F (Ne.symm P),N.bV,?_,.inl Y,.inl O,P⟩,.inl g.self,λh p=>by rw[a5];exact b4 h p,g.IF.bV e,λa0 hq=>g.se a0 (fN hq)⟩;refine b3.mono λu ys K=>K.af F (λh _ _ j=>?_) (λ_ g=>g);rintro rfl;obtain⟨c4,j,J⟩:=j;rw[c8]at j;cases j;exact J _ _ rfl
 refine⟨λs=>l=s/\b6.ends e t a8=true,⟨a,0,rfl,some q,ae T rfl,iH mA kI U ?_⟩,?_⟩
 rotate_left
 ·rintro _ _ ⟨rfl,m⟩
  exact⟨a,0,rfl,some q,ae T rfl,Kg mA kI U λy hm F a5=>a3 y m hm F a5⟩
 rw[c7];refine⟨k0,_,rfl,al.mk (λj=>?_) (λj=>al.mk (λh0=>al.mk (λz=>?_) (λz=>?_)) (λh0=>?_))⟩
 ·refine no ?_
  have:(aE b6.asked e).isSome=false:=by rw[<-a2];simpa using j
  simp[jm.ends,this]
 ·refine no ?_
  have x:(lA (b6.all e t) a8==0)=false:=by simpa[bne]using h0
  have L:(lA (b6.all e t) a8==2)=false:=by simpa[bne]using z
  simp[jm.ends,Gj,x,L]
 ·have m:b6.ends e t a8=true:=by
   have a4:(aE b6.asked e).isSome=true:=by rw[<-a2];simpa using j
   have L:(lA (b6.all e t) a8==2)=true:=by simpa[bne]using z
   simp[jm.ends,Gj,a4,L]
  exact⟨rfl,m⟩
 ·have m:b6.ends e t a8=true:=by
   have a4:(aE b6.asked e).isSome=true:=by rw[<-a2];simpa using j
   have L:(lA (b6.all e t) a8==0)=true:=by simpa[bne]using h0
   simp[jm.ends,Gj,a4,L]
  exact⟨rfl,m⟩
def jm.open(a:jm):List Int:=vk (a.asked.map (·.1))
def KZ(k:dy b a f b6)(e:b6.asked.length*8<=aK):
  Calls XP 123 #[ZQ a] b (Ok (Gm b 3 b6.open)):=by
 obtain⟨l,E,q,F,r,s,H,g,I,J,K,L⟩:=k.body;refine pR ⟨a,0,rfl,some l,ae r rfl,PC.ok (φ:=λt h=>t= .func (.func 250) #[] #[ZQ b.heap.size]/\ai b h/\h.heap.size=b.heap.size+1/\
  h.heap[b.heap.size]? =some (.cells #[.map (some l)] 148 (0,0))) (ir (PA.mk λu c m i=>Ok.mk ⟨rfl,c,m,i⟩)) ?_⟩
 rintro _ u ⟨rfl,c,m,i⟩;have v:∀d∈q,aH d.1:=by
  intro d w;have:d.1∈b6.asked.map (·.1):=by rw[<-g.keys];exact Xk.2 ⟨d,w,rfl⟩
  obtain⟨x,j,y⟩:=Xk.1 this;rw[<-y];exact k.se x j
 refine⟨_,rfl,PC.ok (yR (s.ah c) v (by rw[g.length];exact e) i) ?_⟩;rintro _ M ⟨n,o,p,rfl,z,A,B⟩;refine⟨n,o,p,rfl,Ok.mk ⟨n,o,p,rfl,?_,c.ah A,λC e=>by have:=B C e;omega⟩⟩;unfold jm.open;rw[<-g.keys];exact z
def Ih(e:dy b a f b6):
  Calls XP 85 #[ZQ a] b (Ok λu m=>u= .tuple #[]/\dy m a f ⟨b6.cP,[],[]⟩/\ak f b m):=by
 obtain⟨h,i,E,F,g,n,o,H,I,p,q,k⟩:=e.body;obtain⟨c,d,r⟩:∃c d,b.heap[i]? =some (.map c d):=by obtain⟨c,d,e,_⟩:=o.at';exact⟨c,d,e⟩
 obtain⟨J,K,s⟩:∃c d,b.heap[h]? =some (.map c d):=by obtain⟨c,d,e,_⟩:=n.at';exact⟨c,d,e⟩
 have v:a≠i:=by rintro rfl;rw[g]at r;cases r
 have t:a≠h:=by rintro rfl;rw[g]at s;cases s
 refine oO ⟨a,0,rfl,some h,ae g rfl,HT mA n λL w j x=>⟨a,0,rfl,some i,ae (j.get g t) rfl,HT mH (o.af j (Ne.symm k)) λM y l z=>Ok.mk ⟨rfl,
  ⟨⟨h,i,[],[],l.get (j.get g t) v,w.af l k,y,trivial,trivial,p,q,k⟩,e.self,λA B=>by rw[z,x];exact e.aB A B,by simp[Tidy],sM⟩,?_⟩⟩⟩
 exact j.trans l (by rintro C _ rfl;exact p) (by rintro C _ rfl;exact q)
def fz(d b:Int)(c:List Int×List (Int×Int))(a:Int):List Int×List (Int×Int):=
 if IntKind.wrap .i64 (b-(aE c.2 a).getD 0)>=d then(c.1++[a],aI c.2 a b)else c
def jm.iC(a:jm)(b:Int)(c:Nat):List Int×List (Int×Int):=(a.open.take c).foldl (fz a.cP b) ([],a.asked)
def jm.due(b:jm)(a:Int):List Int:=(b.iC a b.open.length).1
def jm.Qr(a:jm)(b:Int):jm:={a with asked:=(a.iC b a.open.length).2}
def jm.K_(c:jm)(b:Int)(d:c.open[a]? =some e):c.iC b (a+1)=fz c.cP b (c.iC b a) e:=by
 unfold jm.iC;rw[Qw,d];simp
def NL(j:dy b a f b6)(d:b6.asked.length*8<=aK):
  Calls XP 77 #[ZQ a,XH e] b
   (Ok λL M=>∃N a4 a5,L= .slice N a4 a5/\Own M 3 1 N a4 a5 (ints (b6.due e))/\dy M a f (b6.Qr e)/\ak f b M/\∀c,aF N=some c->b.heap.size<=c):=by
 refine rr (PC.ok (KZ j d) ?_);rintro _ O ⟨B,m,lc,rfl,n,t,hn⟩;have b2:∀h∈b6.open,aH h:=by
  intro h C;have:h∈b6.asked.map (·.1):=(List.mergeSort_perm _ _).mem_iff.1 C;obtain⟨u,v,rfl⟩:=Xk.1 this;exact j.se u v
 have P:m=b6.open.length:=by have:=n.length;rw[iQ,Nat.mul_one]at this;exact this.symm
 have b3:b6.open.length=b6.asked.length:=by simp[jm.open,vk]
 have b4:m*8<=aK:=by rw[P,b3];exact d
 have hL:Ints O B m b6.open:=n.ints b4 b2;have b5:ou f B:=cT.2 λc d Q=>by have:=hn c d;have:=j.aB c Q;omega
 unfold aK at d;have d2:ou f none:=ou.none;refine⟨B,m,lc,rfl,λa6 w x R i o=>∃g:Nat,i=g/\g<=m/\a6=m-g/\Own o 3 1 w x R (ints (b6.iC e g).1)/\x<=g/\dy o a f {b6 with asked:=(b6.iC e g).2}/\ak f b o/\Ints o B m b6.open/\O.heap.size<=o.heap.size/\
   (∀c,aF w=some c->O.heap.size<=c),⟨_,0,rfl,Qj _,rfl,Own.nil _ _ _,Qj _,j.ah t,t.af,hL,Q4 _,by simp[aF]⟩,?_⟩
 rintro a6 w x R i _ o ⟨g,rfl,d3,rfl,S,d4,E,T,U,b7,q⟩;refine al.mk (λy=>?_) (λy=>?_)
 ·have y:=XV y
  obtain⟨c,V,h,rfl,d5,C,b8,hc⟩:=U.at (i:=(g:Int)) oM oM;rw[Qx]at C;have a7:=b6.K_ e C;obtain⟨ra,rh,W,lh,t1,t2,t3,t4,t5,t6,t7,t8⟩:=E.body;refine⟨c,V,rfl,oM,oM,h,hc,a,0,rfl,some ra,ae t1 rfl,?_⟩;have b9:(aE W h).getD (XH 0)= XH ((aE (b6.iC e g).2 h).getD 0):=by
   rcases t4.aE h with⟨X,Y⟩|⟨L,d6,X,Y,Z⟩
   ·rw[X,Y];rfl
   ·rw[X,Y];exact Z
  refine⟨(aE (b6.iC e g).2 h).getD 0,λc0=>?_,a,0,rfl,b6.cP,ae t1 rfl,λw3 hd=>?_⟩
  ·have:=dK mA kI (t2.af (ak.drewN (S:=λ_=>False) o c0) id) h false
   simpa[b9]using this
  have k:ai o w3:=hd.af;refine al.mk (λp=>?_) (λp=>?_)
  ·have p:=XV p
   refine PA.mk λw4 r s4 g4=>?_;refine Lm Tk ((S.ah k).ah r) g4 (by unfold aK at*;omega) λa' c' w5 a8 F K=>?_;refine⟨a',x+1,c',rfl,a,0,rfl,?_⟩;have c1:∀c,f c->¬(some c=aF w):=λc Q he=>by have:=q c he.symm;have:=j.aB c Q;have:=t.size;omega
   have z:dy w5 a f {b6 with asked:=(b6.iC e g).2}:=((E.ah k).ah r).af F c1;obtain⟨l,a0,a9,a1,a2,b0,c2,c3,c4,a3,c5,b1⟩:=z.body;refine⟨some l,ae a2 rfl,cW mA kI b0 λw6 c6 s c7=>?_⟩;obtain⟨H,I,J⟩:∃H I,w5.heap[l]? =some (.map H I):=by obtain⟨H,I,j,_⟩:=b0.at';exact⟨H,I,j⟩
   have c8:a≠l:=by rintro rfl;rw[a2]at J;cases J
   have c9:dy w6 a f {b6 with asked:=aI (b6.iC e g).2 h e}:=by
    refine⟨⟨l,a0,_,a1,s.get a2 c8,c6,c2.af s (Ne.symm b1),eT.aI (R:=WN) rfl c3,?_,a3,c5,b1⟩,z.self,λc d=>by rw[c7];exact z.aB c d,z.IF.aI _ _,?_⟩
    ·refine c4.mono λL ys Z=>Z.af s (λu _ _ n=>?_) (λ_ j=>j)
     rintro rfl;obtain⟨d7,n,d0⟩:=n;rw[J]at n;cases n;exact d0 _ _ rfl
    ·intro u v
     rcases eM v with rfl|v
     ·exact b8
     ·exact z.se u v
   have A:b6.iC e (g+1)=((b6.iC e g).1++[h],aI (b6.iC e g).2 h e):=by rw[a7];unfold fz;rw[if_pos p]
   have d1:∀c,aF a'=some c->c≠l:=λc d=>by
    rintro rfl;exact a8.Tp J d
   refine⟨_,?_,g+1,?_,oM,rfl,?_,oM,by rw[A];exact c9,?_,?_,?_,?_⟩
   ·omega
   ·rw[wrap_i64 (by unfold aH;omega)];simp
   ·rw[A];exact a8.af s (cT.2 d1)
   ·refine(((T.ah k).ah r).new F ?_).trans s (λ_ _ j=>j) (by rintro u _ rfl;exact a3)
    intro c d;right;have:=q c d.symm;have:=t.size;omega
   ·refine(((U.ah k).ah r).af F (cT.2 λc d he=>?_)).af s (cT.2 λc d=>?_)
    ·have:=q c he.symm;have:=n.lt d;omega
    ·rintro rfl;exact cT.1 b5 c d a3
   ·have:=k.size;have:=r.size;have:=F.size;omega
   ·intro c d
    rcases K with K|K
    ·exact q c (K▸d)
    ·rw[K]at d;cases d;have:=k.size;have:=r.size;omega
  ·have p:=Xy p
   have A:b6.iC e (g+1)=b6.iC e g:=by rw[a7];unfold fz;rw[if_neg p]
   refine⟨_,?_,g+1,?_,oM,rfl,by rw[A];exact S.ah k,oM,by rw[A];exact E.ah k,T.ah k,U.ah k,Xx b7 k.size,q⟩
   ·omega
   ·rw[wrap_i64 (by unfold aH;omega)];simp
 ·have y:=Xy y
  obtain rfl:g=m:=oM
  refine Ok.mk ⟨w,x,R,rfl,?_,?_,T,λc d=>Xx t.size (q c d)⟩
  ·unfold jm.due;rw[<-P];exact S
  ·unfold jm.Qr;rw[<-P];exact E
structure bP where
 aD:Int
 uM:Int
 bM:Int
 chunk:Int
 buffer:Int
 cP:Int
 every:Int
 start:Int
 decl:aM
structure bj where
 S:aw
 D:an
 log:Option ej
 waits:List aj
 fI:jm
def eP(a:bP)(b:Int):Bool:=
 within a.aD 1 64&&within b 0 (a.aD-1)&&within a.uM 64 262144&&decide (a.bM>=1)&&decide (a.every>=1)&&within a.chunk 1 32&&within a.buffer 1 256&&within a.cP 1 1048576&&decide (a.start>=0)
section
variable (c:bP) (self:Int)
def ic(b:bj):Int×bj:=
 let a:=ep b.D c.bM
 if a.no≠0 then(a.no,{b with D:=a.D,log:=none,S:=⟨c.aD.toNat,[]⟩})
 else(0,{b with D:=a.D,log:=some a.V,S:=(⟨c.aD.toNat,[]⟩:aw).fr a.out})
def FV:Int×bj:=ic c ⟨⟨c.aD.toNat,[]⟩,TW c.uM.toNat,none,[],⟨c.cP,[],[]⟩⟩
def eK(a:aw)(b:List aj):aw:=(⟨c.aD.toNat,[]⟩:aw).fr (a.l++b)
def fB(b:bj)(e:List aj):Int×bj:=match b.log with
 |none=>(15,b)
 |some f=>
  let a:=bl f b.D e
  if a.1≠0 then(a.1,{b with log:=some a.2.1,D:=a.2.2})else
  let d:=a.2.2.sync a.2.1.last
  if d.1≠0 then(d.1,{b with log:=some a.2.1,D:=d.2})else
  (0,{b with log:=some a.2.1,D:=d.2,S:=eK c b.S e})
def eF(a:bj)(e:lF):Int×(Int×Int)×bj:=match a.log with
 |none=>(15,(0,0),a)
 |some _=>
  let b:=qG c.decl a.S (cm c.decl a.S.l) self c.start e
  if b.2.2≠0 then(b.2.2,(0,0),a)else
  if b.2.1 then(let d:=fB c a [b.1];if d.1≠0 then(d.1,(0,0),d.2)else(0,aW b.1,d.2))
  else(0,aW b.1,a)
def gO(b:bj)(a d:Int):List bR×bj:=
 if a<0\/a>=c.aD\/a=self then([],b)else([jM b.S self a],{b with fI:={b.fI with asked:=aI b.fI.asked a d}})
def pK(c:bj)(a:Int):List bR×bj:=((c.fI.due a).map λb=>jM c.S self b,{c with fI:=c.fI.Qr a})
def iD(a:Nat):List aj->aw->List aj->List aj->aw×List aj×List aj
 |[],c,b,d=>(c,b,d)
 |e::f,c,b,d=>
  if(c.add e).1=0 then iD a f (c.add e).2 (b++[e]) d
  else if(c.add e).1=16 then iD a f c b d
  else iD a f c b (eO a d e).2
def ey:List aj->aw->List aj->aw×List aj
 |[],b,a=>(b,a)
 |e::c,b,a=>if(b.add e).1=0 then ey c (b.add e).2 (a++[e])else ey c (b.add e).2 a
def vq:Nat->aw->List aj->List aj->List aj×List aj
 |0,c,a,d=>(a,d)
 |k+1,c,a,d=>
  let b:=bt c d
  if b.1=[]then(a,b.2)else
  let e:=ey b.1 c a
  vq k e.1 e.2 b.2
def ku(b:bj)(d:List aj):List aj×List aj:=
 let a:=iD c.buffer.toNat d (eK c b.S []) [] b.waits
 vq (a.2.2.length+1) a.1 a.2.1 a.2.2
def nm(a:bj)(d:bR):List bR×Int×bj:=
 let e:=ku c a d.events
 let a:={a with waits:=e.2}
 if e.1=[]then([yP a.S self d.bw],0,a)else
 let b:=fB c a e.1
 if b.1≠0 then([],b.1,{b.2 with waits:=[]})else([yP b.2.S self d.bw],0,b.2)
def cg(a:bj)(b:bR):List bR×Int×bj:=match a.log with
 |none=>([],15,a)
 |some _=>
  let no:=fl b c.aD.toNat c.chunk
  if no≠0 then([],no,a)else
  if b.ng≠self then([],1,a)else
  if b.kind=3 then nm c self a b else
  let a:={a with fI:=a.fI.yQ b.bw b.vec a.S.vec}
  if b.kind≠4 then(kY a.S self b c.chunk,0,a)else
  let d:=a.S.missing b.vec c.chunk
  if d=[]then([],0,a)else([⟨3,self,b.bw,[],d⟩],0,a)
def vM(a:bj)(b:Int):Int×bj:=ic c {a with D:=Ae (a.D.AS b),waits:=[],fI:=⟨a.fI.cP,[],[]⟩}
def fJ(a:bj):Int×bj:=match a.log with
 |none=>(15,a)
 |some d=>
  let b:=ck d a.D a.S.l c.bM
  if b.no≠0 then(b.no,{a with D:=b.D})else(0,{a with D:=b.D,log:=some b.V})
end
def Ay:ft:=⟨[],[(3,[]),(7,[(9,.slice none 0 0)]),(11,[(9,.slice none 0 0)])],[],[],[]⟩
def Az{x y D z:Nat}(R:PA b (.cells #[.ii m,.ii A,.ii U,.slice r x y,.slice d1 D z] 127) λc=>(∃l:World->Prop,((rI c (ab_ b 0) λS=>al (S !=1) ((rI c (ab_ b 0) λT=>al (T !=2) (rt s ((.slice none 0 0)) c) (l c))) (l c)))/\∀(d8:Nat->Value) (n:World),l n->(∃o:Option Addr->Nat->Nat->World->Prop,((rS n (ab_ b (0+3)) λV W X=>PC_ 122 #[.pointer d,.slice V W X,.ii (if(if 32<b2 then 32 else b2)>1 then(if 32<b2 then 32 else b2)else 1)] n (kS_ λY B Z p=>al (decide ((B:Int)>0)) (PA p (.cells #[.ii 3,.ii 0,.ii 0,.slice none 0 0,.slice Y B Z] 127) λa3=>PR_ (ap_ 69 (.slice none 0 0) (.slice (some (ab_ p 0)) 1 1)) a3 (kS_ λa4 a5 a6 a7=>o a4 a5 a6 a7) (pV s)) (o none 0 0 p)) (pE s)))/\∀(f:Option Addr) (g:Nat) (h:Nat) (d9:Nat->Value) (G:World),o f g h G->PC_ 58 #[.pointer d] G (kS_ λq t u C=>(∃i:Option Addr->Nat->Nat->World->Prop,((rS C (ab_ b (0+3)) λa8 a9 b0=>PC_ 193 #[.slice a8 a9 b0,.slice q t u] C (kI_ λE a=>(rI a (ab_ b 0) λb1=>al (b1==1) (al (E==2) (PA a (.cells #[.ii 2,.ii 0,.ii 0,.slice q t u,.slice none 0 0] 127) λa0=>PR_ (ap_ 69 (.slice f g h) (.slice (some (ab_ a 0)) 1 1)) a0 (kS_ λb3 b4 b5 b6=>i b3 b4 b5 b6) (pV s)) (al (E==3) (PA a (.cells #[.ii 2,.ii 0,.ii 0,.slice q t u,.slice none 0 0] 127) λb7=>PR_ (ap_ 69 (.slice f g h) (.slice (some (ab_ a 0)) 1 1)) b7 (kS_ λb8 b9 c0 c1=>i b8 b9 c0 c1) (pV s)) (i f g h a))) (i f g h a))) (pE s)))/\∀(v:Option Addr) (k:Nat) (w:Nat) (e0:Nat->Value) (j:World),i v k w j->al ((k:Int)==0) ((rI j (ab_ b (0+1)) λc2=>PC_ 191 #[.pointer d,.ii e,.ii c2] j (λc3 F=>∃H I J K L M N O P,c3= .agg #[.ii H,.ii I,.ii J,.slice K L M,.slice N O P]/\PA F (.cells #[.ii H,.ii I,.ii J,.slice K L M,.slice N O P] 127) λc4=>PR_ (ap_ 69 (.slice v k w) (.slice (some (ab_ F 0)) 1 1)) c4 (kS_ λc5 c6 c7 Q=>(rI Q (ab_ b (0+1)) λc8=>PC_ 194 #[.ii e,.ii c8,.slice c5 c6 c7] Q (kS_ λc9 d0 a1 d2=>rt s ((.slice c9 d0 a1)) d2) (pE s))) (pV s)) (pE s))) ((rI j (ab_ b (0+1)) λd3=>PC_ 194 #[.ii e,.ii d3,.slice v k w] j (kS_ λd4 d5 d6 d7=>rt s ((.slice d4 d5 d6)) d7) (pE s))))) (pE s)))):Calls XP 121 #[.pointer d,.ii e,.agg #[.ii m,.ii A,.ii U,.slice r x y,.slice d1 D z],.ii b2] b s:=DC Ay Tryz.func121 rfl R
def JW:ft:=⟨[(2,[(10,XH 0)])],[],[],[],[]⟩
def JX(k:(∃h:Nat->Int->World->Prop,(∃g,h g 0 b)/\∀(g:Nat) (f:Int) (t:Nat->Value) (i:World),h g f i->al (decide (f<(a:Int))) ((ix_ d f a λl n=>PS i (ad l (n+Int.toNat f*5+1)) (.ii e) λo=>(ix_ d f a λp q=>PS o (ad p (q+Int.toNat f*5+2)) (.ii m) λr=>(∃j,j<g/\h j (IntKind.wrap .i64 (f+1)) r)))) (rt s ((.slice d a c)) i))):Calls XP 194 #[.ii e,.ii m,.slice d a c] b s:=DC JW Tryz.func194 rfl k
structure IU where
 m:bR
 va:Option Addr
 vn:Nat
 vc:Nat
 ea:Option Addr
 en:Nat
 ec:Nat
def Na:jo IU:=flat 5 (λa=>dv a.m a.va a.vn a.vc a.ea a.en a.ec) (λ_=>True) (λ_=>rfl) (λc d b=>by
 simp only[dv,Q2,List.not_mem_nil,or_false]at b;rcases b with rfl|rfl|rfl|rfl|rfl<;>rfl)
def IU.In(b:World)(D:Nat->Prop)(a:IU):Prop:=Row aJ 8 b D a.va a.vn a.m.vec/\Row jj 96 b D a.ea a.en a.m.events
def Dx:jC XP 69 127 Na.k 72:=⟨kR,kR,dC⟩
def a_(d:World)(h:List bR)(i:Value)(c:World):Prop:=
 ∃(b:Option Addr) (f g:Nat) (e:List IU) (D:Nat->Prop),i= .slice b f g/\aO Na 127 (λa=>aF b=some a) c b f g e/\e.map (·.m)=h/\(∀a∈e,a.In c D)/\(∀a,D a->d.heap.size<=a/\a<c.heap.size/\aF b≠some a)/\(∀a,aF b=some a->d.heap.size<=a)/\ai d c
section
variable {w w':World} {p:Nat} {F D:Nat->Prop} {S:aw} {a:Option Addr} {n c:Nat}
def IU.In.af{a:IU}(b:a.In w D)(c:ak f w w')(d:∀a,D a->¬f a):a.In w' D:=⟨b.1.af c d,b.2.af c d⟩
def IU.In.mono{a:IU}(b:a.In w D)(c:∀a,D a->f a):a.In w f:=⟨b.1.mono c,b.2.mono c⟩
def cU{a:jo j}{bytes:Nat}(w:World)(D:Nat->Prop):Row a bytes w D none 0 []:=⟨rfl,sM,λc d b=>by simp at b⟩
def a_.nil(w:World):a_ w [] (.slice none 0 0) w:=⟨none,0,0,[],λ_=>False,rfl,(aO.nil w).mono (λb a=>a.elim) (λb a=>(by cases a)),rfl,sM,λb a=>a.elim,λb a=>(by cases a),ak.refl _⟩
def a_.ah(g:a_ b b1 v w)(f:ai w w'):a_ b b1 v w':=by
 obtain⟨a,n,c,i,D,j,k,l,m,h,o,p⟩:=g;exact⟨a,n,c,i,D,j,k.ah f,l,λd e=>(m d e).af f λ_ _ g=>g,λd e=>⟨(h d e).1,by have:=f.size;have:=(h d e).2.1;omega,(h d e).2.2⟩,o,p.then f⟩
def a_.push(u:a_ b b1 (.slice a n c) w)(L:jC h g 127 Na.k 72){m:bR}{k l o p y:Nat}{M:Nat×Nat}{E:Nat->Prop}(N:(⟨m,d,k,l,r,o,p⟩:IU).In w E)(z:∀e,E e->b.heap.size<=e/\e<w.heap.size/\aF a≠some e)(O:w.heap[y]? =some (.cells (dv m d k l r o p).toArray 127 M))(V:b1.length<=1000){A P:Value->World->Prop}(v:∀i j w',a_ b (b1++[m]) (.slice i (n+1) j) w'->ak (λe=>aF a=some e) w w'->A (.slice i (n+1) j) w'):
  aG h (Builtin.append_ #[g,g] q #[.slice a n c,.slice (ZX y) 1 1]) w A P:=by
 obtain⟨W,X,Y,x,D,Q,R,B,S,C,F,H⟩:=u
 cases Q
 have Z:x.length=b1.length:=by rw[<-B,Q8]
 refine eV (c:=Na) (x:=⟨m,d,k,l,r,o,p⟩) (D:=λ_=>False) R L O ⟨rfl,trivial⟩ (λe f=>f.elim) (by unfold aK;omega) (by unfold maxLen;omega) λi j w' F' s t T=>?_;have I:∀e,aF i=some e->aF a=some e\/w.heap.size<=e:=λe f=>(T e (s.self e f)).imp id λu=>u.resolve_left id;have a0:=t.size;have z7:=H.size;refine v i j w' ⟨i,n+1,j,x++[⟨m,d,k,l,r,o,p⟩],λe=>D e\/E e,rfl,(show aO Na 127 (λe=>aF i=some e) w' i (n+1) j (x++[⟨m,d,k,l,r,o,p⟩])from s.alone),by rw[Q3,B];rfl,λe f=>?_,λe f=>?_,λe f=>?_,H.new t λe f=>.inr (F e f)⟩ t
 ·rcases Q6.1 f with f|f
  ·exact((S e f).af t λe f=>(C e f).2.2).mono λe f=>.inl f
  ·simp at f;subst f
   exact(N.af t λe f=>(z e f).2.2).mono λe f=>.inr f
 ·have J:b.heap.size<=e/\e<w.heap.size/\aF a≠some e:=f.elim (C e) (z e)
  exact⟨J.1,oM,λU=>(I e U).elim J.2.2 oM⟩
 ·rcases I e f with K|K
  ·exact F e K
  ·omega
def Mg(A:a_ b b1 (.slice a n c) w)(P:b1.length<=1000):
  Calls XP 194 #[XH e,XH m,.slice a n c] w (Ok λB w'=>a_ b (b1.map λp=>{p with bw:=e,ng:=m}) B w'):=by
 obtain⟨Q,R,S,f,D,C,t,y,E,q,z,F⟩:=A
 cases C
 have T:f.length=b1.length:=by rw[<-y,Q8]
 have U:=t.len dC;obtain⟨h,k⟩:∃h:IU->IU,h=λg=>{g with m:={g.m with bw:=e,ng:=m}}:=⟨_,rfl⟩
 refine JX ⟨λp i w'=>∃d:Nat,i=d/\d<=n/\p=n-d/\aO Na 127 (λg=>aF a=some g) w' a n c ((f.take d).map h++f.drop d)/\ak (λg=>aF a=some g) w w',⟨_,0,rfl,Qj _,rfl,by simpa using t,ak.refl _⟩,?_⟩;rintro p _ _ V ⟨d,rfl,W,rfl,u,r⟩;refine al.dec (λX=>?_) (λY=>?_)
 ·have s:f[d]? =some f[d]:=Qq oM
  have l:∃o,a=ZX o:=by
   obtain⟨cs,D,H,-⟩:=t.body;rcases H.cases with⟨_,Z,_,_⟩|⟨o,I,rfl,_⟩
   ·omega
   ·exact⟨o,rfl⟩
  obtain⟨o,l⟩:=l;have v:((f.take d).map h++f.drop d)[d]? =some f[d]:=by
   rw[X8 (by simp;omega)];simp[Qy,X2 (show d<=f.length by omega)]
  generalize f[d]=i at s v;have J:d<((f.take d).map h++f.drop d).length:=(Qv.1 v).1;refine⟨o,0,l,oM,oM,?_⟩;rw[Qx];refine aO.set (x':={i with m:={i.m with bw:=e}}) (j:=1) u v dC rfl l λa3 K L a4=>⟨o,0,l,oM,oM,?_⟩
  refine aO.set (x:={i with m:={i.m with bw:=e}}) (x':=h i) (j:=2) K (by rw[List.getElem?_set_self J]) dC (by rw[k];rfl) l λa5 x M a6=>⟨_,?_,d+1,aq oM,oM,rfl,?_,(r.then L).then M⟩
  ·omega
  ·rw[List.set_set]at x
   have N:((f.take d).map h++f.drop d).set d (h i)=(f.take (d+1)).map h++f.drop (d+1):=by
    have O:((f.take d).map h).length=d:=by simp;omega
    rw[Qw,s,Q3,XQ,List.set_append,if_neg oM,O,Nat.sub_self,X4 (show d<f.length by omega)];rfl
   rw[N]at x;exact x
 ·obtain rfl:d=n:=oM
  rw[Qz oM,List.drop_eq_nil_of_le oM,List.append_nil]at u;refine Ok.mk ⟨a,d,c,f.map h,D,rfl,u,?_,λg j=>?_,λg j=>⟨(q g j).1,by have:=r.size;have:=(q g j).2.1;omega,(q g j).2.2⟩,z,F.new r λg j=>.inr (z g j)⟩
  ·rw[<-y,List.map_map,List.map_map,k];rfl
  ·obtain⟨i,s,rfl⟩:=Xk.1 j
   have:=(E i s).af r λg j=>(q g j).2.2;rw[k];exact this
end
end Go.Proofs.YtjgjkeponbeekaaGreatDoor

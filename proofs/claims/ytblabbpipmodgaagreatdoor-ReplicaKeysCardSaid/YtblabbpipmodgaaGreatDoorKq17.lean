import Derived.Test.YtblabbpipmodgaaGreatDoorKq16
set_option maxHeartbeats 4000000
set_option linter.all false
set_option maxRecDepth 20000
namespace Go.Proofs.YtblabbpipmodgaaGreatDoor
open Go.aw
def bK(P:List aj):List UInt8×Int:=if P.any fB then([],3)else(dS P,0)
variable{e:Int}{w:List UInt8}{F:List aj}{a c i:Nat}{a2 f:XN}{d:ZH}{b k:World}{a9:ef}
def Iw(V:Laid b)(C:Row fY 96 b f d a F)(W:∀P,f P->P<b.heap.size)(hl:F.length<=20000000):
  ZG 115 #[.slice d a c] b (Ok λX q=>∃E H I m,X= .tuple #[.slice E H I,XH (bK F).2]/\aO fe 5 m q E H I (bK F).1/\ai b q/\∀P,m P->b.heap.size<=P):=by
 have hn:=C.len;refine vi ⟨λJ K L N O q=>∃(e:Nat) (m:XN),O=e/\e<=a/\J=a-e/\(∀g∈F.take e,g.Ok/\g.aN.length<=64)/\(dS (F.take e)).length<=675*e/\aO fe 5 m q K L N (dS (F.take e))/\ai b q/\∀P,m P->b.heap.size<=P,
  ⟨_,0,λ_=>False,rfl,Qj _,rfl,sM,by simp[dS],aO.nil b,ak.refl _,λ_ u=>u.elim⟩,?_⟩
 rintro J K L N O _ Y ⟨e,m,rfl,hj,rfl,v,Z,o,n,w⟩;refine an.dec (λa9=>?_) (λb0=>?_)
 ·obtain⟨P,x,g,es,rfl,_,_,Q,k,a1,n1,c1,rfl,hd,s⟩:=(C.ah n).vy (i:=e) oM
  have h:=λi (hi:i<10)=>k i hi;refine⟨P,x,rfl,oM,oM,_,_,_,_,_,_,_,_,_,_,_,_,h 0 dC,h 1 dC,h 2 dC,h 3 dC,h 4 dC,h 5 dC,h 6 dC,h 7 dC,h 8 dC,h 9 dC,PA.mk λw2 k2 s2 g2=>?_⟩;refine storeAll (aB g a1 n1 c1) g2 rfl λw3 k3 s3 j=>?_;have p:ai Y w3:=k2.new k3 λP l=>.inr oM;refine⟨_,_,_,_,_,_,_,_,_,_,_,_,ae j rfl,ae j rfl,ae j rfl,ae j rfl,ae j rfl,ae j rfl,ae j rfl,ae j rfl,ae j rfl,ae j rfl,?_⟩;refine PC.ok (Cj (V.ah (n.then p)) (hd.ah p) s λP l=>by have:=W P l;have:=(n.then p).size;omega) ?_;rintro _ R ⟨a4,n4,c4,F4,rfl,r,S,T⟩
  by_cases t:g.aN.length<=64
  ·have y:=oR s t
   rw[y]at r⊢;have b1:=Kf s t;refine⟨_,_,_,_,rfl,an.df (λk=>Zz rfl k) (λ_=>?_)⟩;have z:=p.then S;have a0:Row fe 1 R F4 a4 n4 (vz g):=r.row (bytes:=1) dC (by unfold aI;dsimp only;omega);have b2:=z.size;have b3:=p.size;refine xY (o.ah z) rJ a0 (λg=>r.Lr g) (λP l=>⟨r.aC P l,λk=>by have:=o.aC P (o.self P k);have:=T P l;omega⟩) ba (by unfold maxLen;omega) λb4 c5 w5 F5 a3 a6 a7 _=>?_;have A:F.take (e+1)=F.take e++[g]:=by rw[Qw,Q];rfl
   refine⟨_,_,_,rfl,a-(e+1),oM,e+1,F5,aq oM,oM,rfl,?_,?_,?_,(n.then z).new a6 λP l=>.inr (by have:=w P (o.self P l);omega),?_⟩
   ·rw[A]
    intro a2 B;rcases Q6.1 B with M|M
    ·exact v a2 M
    ·simp at M;subst M;exact⟨s,t⟩
   ·rw[A,mS];simp;omega
   ·rw[A,mS];exact a3
   ·intro P l
    have:=n.size;rcases a7 P l with M|M|M
    ·exact w P M
    ·have:=T P M;omega
    ·omega
  ·have y:=v_ t
   rw[y]at r⊢;refine⟨_,_,_,_,rfl,an.df (λ_=>?_) (λk=>Zz k dC)⟩;have a5:F.any fB=true:=List.any_eq_true.2 ⟨g,QZ Q,by unfold fB;simp;omega⟩;rw[show bK F=([],3) by unfold bK;rw[Zx a5]];exact Ok.mk ⟨none,0,0,λ_=>False,rfl,aO.nil R,(n.then p).then S,λ_ u=>u.elim⟩
 ·obtain rfl:e=a:=oM
  rw[Qz oM]at v Z o;have a8:F.any fB=false:=by
   rw[<-Bool.not_eq_true];intro k;obtain⟨g,he,U⟩:=List.any_eq_true.1 k;have:=(v g he).2;unfold fB at U;simp at U;omega
  rw[show bK F=(dS F,0) by unfold bK;rw[Zq (by simp[a8])]];exact Ok.mk ⟨_,_,_,m,rfl,o,n,w⟩
def eB(no:Int)(e:List UInt8)(D:al):Int×al:=
 let P:=cx (aA no)
 let a:=D.create P
 if a.1≠0 then(a.1,a.2)else
 let b:=a.2.append P e
 if b.1≠0 then(b.1,(b.2.delete P).2)else
 let c:=b.2.sync P
 if c.1≠0 then(c.1,(c.2.delete P).2)else
 let d:=bZ c.2 [no]
 (d.1,if d.1≠0 then(d.2.delete P).2 else d.2)
def Ls{D:al}{no:Int}(hL:Laid b)(L:aS b k a D f)(R:aK no)(g:Row fe 1 k a2 d c w)(c4:d=none->c=0/\i=0)(b1:∀P,a2 P->f P):
  ZG 116 #[XL a,XH no,.slice d c i] k (Ok (lT b k a f (eB no w D))):=by
 have e3:=L.gr.size;have S:∀P,f P->P<k.heap.size:=by obtain⟨b0,f1,f2,T,U⟩:=L;exact U
 refine xk (PA.mk λx k1 s1 g1=>PA.mk λw2 V s2 g2=>PC.ok (iA (hL.ah ((L.gr.then k1).then V)) R) ?_);rintro _ W ⟨rfl,M⟩;have z3:=M.size;refine⟨_,rfl,PA.mk λw4 X s4 g4=>PS.mk g4 sM λY Z s5 g5=>?_⟩
 let s:XN:=λP=>f P\/(P=k.heap.size\/P=x.heap.size\/P=W.heap.size)
 have b2:ai k Y:=((((k1.then V).then M).then X)).new Z λP g=>.inr oM;have c8:aS b Y a D s:=L.add b2 λP g=>by omega
 let y:World->Int->Prop:=λj m=>j.heap[k.heap.size]? =some (.cells #[XL a] 87 (0,0))/\j.heap[x.heap.size]? =some (.cells #[XH m] 34 (0,0))/\j.heap[W.heap.size]? =some (.cells #[.string (cx (aA no))] 9 (0,0))
 have C5:y Y 0:=⟨Z.get (X.get (M.get (V.get g1 id) id) id) oM,Z.get (X.get (M.get g2 id) id) oM,g5⟩
 have h:∀{j o:World} {m:Int},y j m->ak (du s) j o->y o m:=λn t=>
  ⟨t.get n.1 λp=>p (.inr (.inl rfl)),t.get n.2.1 λp=>p (.inr (.inr (.inl rfl))),t.get n.2.2 λp=>p (.inr (.inr (.inr rfl)))⟩
 have H:∀{j o:World},ak (du f) k j->ak (du s) j o->ak (du f) k o:=λd P=>d.then (P.mono λP _ g q=>g (.inl q));have e:∀{j:World} {m B:Int} {u:al} {κ:XU},y j m->aS b j a u s->ak (du f) k j->(∀o,y o B->aS b o a u s->ak (du f) k o->ak (·=x.heap.size) j o->κ o)->PS j ⟨x.heap.size,0,none⟩ (XH B) κ:=by
  intro j m B u κ n hN t a0;have h1:=ay n.2.1;refine PS.mk n.2.1 sM λo z e4 c9=>a0 o ⟨z.get n.1 oM,c9,z.get n.2.2 oM⟩ ?_ (t.then (z.mono λP _ g q=>by have:=S P q;omega)) z;obtain⟨b0,f1,f2,T,U⟩:=hN;exact⟨b0,f1.af z λP g m=>(T P g).2 (.inr (.inr (.inl m))),f2.new z λP g=>.inr oM,T,λP g=>Qk (U P g) z.size⟩
 have l:∀{I:Int×al} (m:Int) (u:al) (j:World),aS b j a u s->ak (du f) k j->y j m->I=(m,if m≠0 then(u.delete (cx (aA no))).2 else u)->
   Lv XP (λb3=>∃b4:Int,b3.cell? ⟨x.heap.size,0,none⟩=some (XH b4)/\Ok (lT b k a f I) (.returned (XH b4)) b3) (λch j=>Ok (lT b k a f I) (.panicked ch) j)
    ([{target:=.fn (.func 170) #[XL x.heap.size,XL k.heap.size,XL W.heap.size],args:= #[]}]:List Deferred) .returning j:=by
  intro I m u j p t n hr;refine Lv.one sM kR (CallsD.mono (rU (R:=λB J=>B= .returned (.tuple #[])/\∃b5:Int,J.cell? ⟨x.heap.size,0,none⟩=some (XH b5)/\Ok (lT b k a f I) (.returned (XH b5)) J) ⟨_,ae n.2.1 rfl,an.df (λr=>⟨_,ae n.1 rfl,_,ae n.2.2 rfl,PC.ok p.delete ?_⟩) (λA=>⟨rfl,_,ae n.2.1 rfl,Ok.mk ?_⟩)⟩) ?_)
  ·rintro _ wb ⟨rfl,d0,kb⟩
   have d1:=h n kb;refine⟨_,rfl,rfl,_,ae d1.2.1 rfl,Ok.mk ?_⟩;rw[hr,Zx r];exact⟨rfl,d0.mono λP g=>.inl g,H t kb⟩
  ·rw[hr,Zq (by simpa using A)]
   exact⟨rfl,p.mono λP g=>.inl g,t⟩
  ·rintro B u' J ⟨rfl,rfl,S⟩
   exact Lv.ret rfl S
 refine⟨_,ae C5.1 rfl,_,ae C5.2.2 rfl,PC.ok c8.create ?_⟩;rintro _ w6 ⟨rfl,b6,k6⟩;have C6:=h C5 k6;have d2:=H (ai.af b2) k6;have hW:eB no w D=if(D.create (cx (aA no))).1≠0 then((D.create (cx (aA no))).1,(D.create (cx (aA no))).2)else
   if((D.create (cx (aA no))).2.append (cx (aA no)) w).1≠0 then(((D.create (cx (aA no))).2.append (cx (aA no)) w).1,(((D.create (cx (aA no))).2.append (cx (aA no)) w).2.delete (cx (aA no))).2)else
   if((((D.create (cx (aA no))).2.append (cx (aA no)) w).2).sync (cx (aA no))).1≠0 then(((((D.create (cx (aA no))).2.append (cx (aA no)) w).2).sync (cx (aA no))).1,(((((D.create (cx (aA no))).2.append (cx (aA no)) w).2).sync (cx (aA no))).2.delete (cx (aA no))).2)else
   ((bZ ((((D.create (cx (aA no))).2.append (cx (aA no)) w).2).sync (cx (aA no))).2 [no]).1,if(bZ ((((D.create (cx (aA no))).2.append (cx (aA no)) w).2).sync (cx (aA no))).2 [no]).1≠0 then((bZ ((((D.create (cx (aA no))).2.append (cx (aA no)) w).2).sync (cx (aA no))).2 [no]).2.delete (cx (aA no))).2 else(bZ ((((D.create (cx (aA no))).2.append (cx (aA no)) w).2).sync (cx (aA no))).2 [no]).2):=rfl
 rw[hW];generalize D.create (cx (aA no))=cr at b6⊢;refine⟨_,rfl,e C6 b6 d2 λJ C b7 a4 k7=>⟨_,ae C.2.1 rfl,an.df (λr=>?_) (λA=>?_)⟩⟩
 ·refine⟨_,ae C.2.1 rfl,e C b7 a4 λw8 C8 N a5 k8=>⟨_,ae C8.2.1 rfl,Ok.mk ?_⟩⟩
  rw[Zx r];exact⟨rfl,N.mono λP g=>.inl g,a5⟩
 rw[Zq (by simpa using A)];have d3:Row fe 1 J a2 d c w:=g.af a4 λP g p=>p (b1 P g);refine⟨_,ae C.1 rfl,_,ae C.2.2 rfl,PC.ok (b7.append d3 c4 λP g=>.inr (.inl (b1 P g))) ?_⟩;rintro _ w8 ⟨rfl,N,k8⟩;have C8:=h C k8;have a5:=H a4 k8;generalize cr.2.append (cx (aA no)) w=ap at N⊢;refine⟨_,rfl,e C8 N a5 λw9 E b8 b9 k9=>⟨_,ae E.2.1 rfl,an.df (λr=>?_) (λA=>?_)⟩⟩
 ·refine⟨_,ae E.2.1 rfl,e E b8 b9 λc0 a6 O a1 a7=>?_⟩
  rw[Zx r];exact l _ _ c0 O a1 a6 (by rw[Zx r])
 rw[Zq (by simpa using A)];refine⟨_,ae E.1 rfl,_,ae E.2.2 rfl,PC.ok b8.sync ?_⟩;rintro _ c0 ⟨rfl,O,a7⟩;have a6:=h E a7;have a1:=H b9 a7;generalize ap.2.sync (cx (aA no))=sy at O⊢;refine⟨_,rfl,e a6 O a1 λa8 K c1 c2 e5=>⟨_,ae K.2.1 rfl,an.df (λr=>?_) (λA=>?_)⟩⟩
 ·refine⟨_,ae K.2.1 rfl,e K c1 c2 λF a9 a3 c5 Q=>?_⟩
  rw[Zx r];exact l _ _ F a3 c5 a9 (by rw[Zx r])
 rw[Zq (by simpa using A)];refine⟨_,ae K.1 rfl,PA.mk λF Q e6 c3=>?_⟩;have a3:aS b F a sy.2 (λP=>s P\/P=a8.heap.size):=c1.add Q λP g=>by subst g;exact⟨Q4 _,ay c3⟩
 have c6:Row aG 8 F (·=a8.heap.size) (XM a8.heap.size) 1 [no]:=Row.lit c3 [no] rfl (λc7 q=>by simp at q;subst q;exact R) (by unfold aI;simp);refine PC.ok (a3.bZ hL.mI c6 (λc7 q=>by simp at q;subst q;exact R) λP g=>.inr (.inr g)) ?_;rintro _ d4 ⟨rfl,d5,d6⟩;have v:ak (du s) F d4:=d6.mono λP _ g hy=>g (.inl hy);have a9:y F sy.1:=h K (ai.af Q);have d7:=h a9 v;have d8:=H (c2.ah Q) v;exact⟨_,rfl,e d7 (d5.mono λP g=>.inl g) d8 λd9 e0 e1 e2 e7=>l _ _ d9 e1 e2 e0 rfl⟩
def oS:List Int->al->al
 |[],D=>D
 |no::P,D=>if(D.delete (fM no)).1≠0 then(D.delete (fM no)).2 else oS P (D.delete (fM no)).2
def cm(P:ef)(D:al)(a:List aj)(b:Int):oT:=
 if(bK a).2≠0 then⟨(bK a).2,[],P,D⟩else
 if(eB P.next (bK a).1 D).1≠0 then⟨(eB P.next (bK a).1 D).1,[],P,(eB P.next (bK a).1 D).2⟩else
 eg (oS P.bG (eB P.next (bK a).1 D).2) b
def Ix(d h:World)(e i:Nat)(j:ef)(b:XN)(a:oT)(f:Value)(c:World):Prop:=
 ∃G,gW c e i G j/\(∀P,G P->d.heap.size<=P/\¬b P)/\ak (du b) h c/\
  ((a.no≠0/\f= .tuple #[.pointer none,XH a.no]/\aS d c e a.D (λP=>b P\/G P))\/
   (a.no=0/\∃g,f= .tuple #[XL g,XH 0]/\bY d c e g a.V a.D (λP=>b P\/G P)))
def Gf{D:al}{U a5:Nat}(z:Laid b)(V:bY b k a c a9 D f)(W:Row fY 96 k a2 d U F)(b3:∀P,a2 P->P<k.heap.size)(hl:F.length<=20000000):
  ZG 60 #[XL a,XL c,.slice d U a5,XH e] k (Ok (Ix b k a c a9 f (cm a9 D F e))):=by
 obtain⟨G,I,u,A⟩:=id V;have d0:=u.many;refine sZ (PC.ok (Iw (z.ah V.gr) W b3 hl) ?_);rintro _ w1 ⟨b4,n1,c1,F1,rfl,J,p,b5⟩;have hz:∀P,(f P\/G P)->P<k.heap.size:=by obtain⟨d1,f1,f2,f3,f4⟩:=I;exact f4
 refine⟨_,_,_,_,rfl,an.df (λj=>Ok.mk ?_) (λq=>PC.ok (Np (u.ah p)) ?_)⟩
 ·rw[show cm a9 D F e=⟨(bK F).2,[],a9,D⟩ by unfold cm;rw[Zx j]]
  exact⟨G,u.ah p,A,ai.af p,.inl ⟨j,rfl,I.ah p⟩⟩
 rintro _ _ ⟨rfl,rfl⟩;have b6:aS b w1 a D (λP=>(f P\/G P)\/F1 P):=I.add p λP g=>⟨b5 P g,J.aC P g⟩
 have d2:(bK F).1.length<=13500000000:=by
  unfold bK;split
  ·simp
  ·rename_i b8
   have:∀n∈F,n.Ok/\n.aN.length<=64:=λn X=>by
    obtain⟨i,hi⟩:=List.mem_iff_getElem?.1 X;obtain⟨P,v,es,-,-,-,-,b4,n1,c1,-,-,b9⟩:=W.el i n hi;refine⟨b9,?_⟩;have:¬fB n=true:=λK=>b8 (List.any_eq_true.2 ⟨n,X,K⟩);unfold fB at this;simp at this;omega
   have:=Nq this;show(dS F).length<=_;omega
 refine⟨_,rfl,PC.ok (Ls z b6 u.zl (J.row (bytes:=1) dC ba) (λn=>J.Lr n) λP g=>.inr g) ?_⟩;rintro _ Y ⟨rfl,c0,Z⟩;have L:aS b Y a (eB a9.next (bK F).1 D).2 (λP=>f P\/G P):=c0.mono λP g=>.inl g;have M:=(u.ah p).af Z λP g l=>l (.inl (.inr g));have a6:ak (du f) k Y:=(ai.af p).then (Z.mono λP _ g m=>g (.inl (.inl m)));have hC:cm a9 D F e=if(eB a9.next (bK F).1 D).1≠0 then⟨(eB a9.next (bK F).1 D).1,[],a9,(eB a9.next (bK F).1 D).2⟩else eg (oS a9.bG (eB a9.next (bK F).1 D).2) e:=by
  unfold cm;rw[Zq (by simpa using q)]
 rw[hC];generalize eB a9.next (bK F).1 D=w at L⊢;refine⟨_,rfl,an.df (λj=>Ok.mk ?_) (λq=>?_)⟩
 ·rw[Zx j]
  exact⟨G,M,A,a6,.inl ⟨j,rfl,L⟩⟩
 rw[Zq (by simpa using q)];refine⟨λo=>aS b o a (oS a9.bG w.2) (λP=>f P\/G P)/\gW o a c G a9/\ak (du f) k o,PC.ok (DY M) ?_,?_⟩
 ·rintro _ w3 ⟨a3,s,c3,B,rfl,N,O,c2⟩
  have d3:=N.len dC;have Q:aS b w3 a w.2 (λP=>(f P\/G P)\/B P):=L.add O λP g=>⟨c2 P g,N.aC P g⟩
  refine⟨_,_,_,rfl,λa0 a1 o=>∃(h:Nat) (r:al),a1=h/\h<=s/\a0=s-h/\oS a9.bG w.2=oS (a9.bG.drop h) r/\aS b o a r (λP=>(f P\/G P)\/B P)/\aO aG 3 B o a3 s c3 a9.bG/\gW o a c G a9/\ak (du f) k o,
   ⟨_,0,w.2,rfl,Qj _,rfl,rfl,Q,N,M.ah O,a6.ah O⟩,?_⟩
  rintro a0 a1 _ w4 ⟨h,r,rfl,hj,rfl,C,x,R,a7,a8⟩;refine an.dec (λd4=>?_) (λd5=>?_)
  ·have c5:Row aG 8 w4 B a3 s a9.bG:=R.row dC ba
   obtain⟨P,v,t,rfl,m,c6,K⟩:=c5.ko (i:=h) oM;refine⟨P,v,rfl,oM,oM,t,K,PC.ok (iA (z.ah x.gr) c6) ?_⟩;rintro _ w5 ⟨rfl,E⟩;refine⟨_,rfl,PC.ok (x.ah E).delete ?_⟩;rintro _ w6 ⟨rfl,S,T⟩;have b7:a9.bG.drop h=t::a9.bG.drop (h+1):=by
    obtain⟨c7,rfl⟩:=Qv.1 m;exact X4 c7
   rw[b7]at C;have H:oS a9.bG w.2=if(r.delete (cx (aA t))).1≠0 then(r.delete (cx (aA t))).2 else oS (a9.bG.drop (h+1)) (r.delete (cx (aA t))).2:=C
   have a4:=(a7.ah E).af T λP g l=>l (.inl (.inr g));have b0:ak (du f) k w6:=(a8.ah E).then (T.mono λP _ g m=>g (.inl (.inl m)));have c8:=(R.ah E).af T λP g l=>l (.inr g);generalize r.delete (cx (aA t))=c4 at H S⊢;refine⟨_,rfl,an.df (λj=>?_) (λq=>?_)⟩
   ·rw[H,Zx j]
    exact⟨S.mono λP g=>.inl g,a4,b0⟩
   ·rw[Zq (by simpa using q)]at H
    exact⟨s-(h+1),oM,h+1,c4.2,aq oM,oM,rfl,H,S,c8,a4,b0⟩
  ·obtain rfl:h=s:=oM
   rw[List.drop_of_length_le oM]at C;rw[C];exact⟨x.mono λP g=>.inl g,a7,a8⟩
 ·rintro _ w3 ⟨Q,b1,b2⟩
  refine PC.ok (Gg (size:=e) z Q) ?_;rintro _ w4 (⟨j,rfl,x,y⟩|⟨q,q2,d6,n4,d7,G4,rfl,R,c9,y,-,-,-⟩)
  ·exact⟨_,_,_,_,_,rfl,Ok.mk ⟨G,b1.af y λP g l=>l (.inr g),A,b2.then (y.mono λP _ g m=>g (.inl m)),.inl ⟨j,rfl,x⟩⟩⟩
  ·exact⟨_,_,_,_,_,rfl,Ok.mk ⟨G,b1.af y λP g l=>l (.inr g),A,b2.then (y.mono λP _ g m=>g (.inl m)),.inr ⟨q,q2,rfl,c9.mono λP g=>.inl g⟩⟩⟩
def Ny:Reads XP fY 55:=λa5 s a6 a7 a cs b t u=>by
 obtain⟨v,n2,_,rfl,w,x,P⟩:=DataW.trod_struct (Tryz.underlying55) t;have y:Tryz.prog.cellsOf 55=10:=kR
 have z:cs.length=10:=w.trans y;have c:Tryz.prog.cellsOf 3=1:=kR
 have d:Tryz.prog.cellsOf 39=2:=kR
 have e:Tryz.prog.cellsOf 27=1:=kR
 match cs,z with
 |[v0,v1,v2,v3,v4,v5,v6,v7,v8,v9],_=>
 match v,x with
 |[y0,y1,A,y3,y4,y5,y6,y7,y8],_=>
  have f:=P 0 _ rfl;have g:=P 1 _ rfl;have h:=P 2 _ rfl;have i:=P 3 _ rfl;have j:=P 4 _ rfl;have k:=P 5 _ rfl;have l:=P 6 _ rfl;have m:=P 7 _ rfl;have n:=P 8 _ rfl;simp only[c,d,e,List.drop_zero,List.drop_succ_cons,Zw,List.take_zero,ZJ,ZZ]at f g h i j k l m n;obtain⟨B,n3,_,a8,a9,C,o⟩:=DataW.trod_struct (Tryz.underlying39) f
  match B,C with
  |[u0,u1],_=>
  have p:=o 0 _ rfl;have q:=o 1 _ rfl;simp only[c,d,e,List.drop_zero,List.drop_succ_cons,Zw,List.take_zero,ZJ,ZZ]at p q;obtain⟨E,F,-,H⟩:=DataW.trod_int Tryz.underlying3 p;obtain⟨z1,I,-,J⟩:=DataW.trod_int Tryz.underlying3 q;obtain⟨K,L,-,M⟩:=DataW.trod_int Tryz.underlying3 g;obtain⟨N,O,-,Q⟩:=DataW.trod_int Tryz.underlying3 i;obtain⟨R,S,-,T⟩:=DataW.trod_int Tryz.underlying3 j;obtain⟨U,V,-,W⟩:=DataW.trod_int Tryz.underlying3 k;obtain⟨X,Y,-,Z⟩:=DataW.trod_int Tryz.underlying3 l;obtain⟨z8,e8,-,w8⟩:=DataW.trod_int Tryz.underlying3 m;obtain⟨z9,e9,-,w9⟩:=DataW.trod_int Tryz.underlying3 n;have a0:iB XP 27 A.1:=by
   intro a1 hq;refine u a1 ?_;have hu:Tryz.prog.underlying 55=_:=Tryz.underlying55;simp only[DataW.weights,hu,QY,List.map_nil,DataW.weightsEach,Q6];right;right;left;exact hq
  obtain⟨a3,n4,c4,l4,e3,-,-,r⟩:=open_row (bytes:=8) Tryz.underlying27 kR dC kR (Cs Tryz.underlying3) h a0
  cases F;cases I;cases L;cases e3;cases O;cases S;cases V;cases Y;cases e8;cases e9
  exact⟨⟨E,z1,K,l4,N,R,U,X,z8,z9⟩,a3,n4,c4,rfl,r,aJ H,aJ J,aJ M,λb hx=>by
   obtain⟨a2,hi⟩:=List.mem_iff_getElem?.1 hx;obtain⟨b0,a4,es,-,-,-,-,hr⟩:=r.el a2 b hi;exact hr.2,aJ Q,aJ T,aJ W,aJ Z,aJ w8,aJ w9⟩
end Go.Proofs.YtblabbpipmodgaaGreatDoor
namespace Go.Proofs
open Go.RowKit Go.Maps Go.Sort Go.Shelf
def Tryz.SC(c:Nat):AnyZI.SortsIn Tryz.prog Tryz.wQ Fence.wide c:=
 ⟨λaF a P d b e f g=>callsIn_wide.2 (AnyM.slices_Sort_int Tryz.uu aF a P d b e f g),
  λh P b=>callsIn_wide.2 (AnyM.slices_Sort_int_none Tryz.uu h P b)⟩
end Go.Proofs
namespace Go.Proofs.YtblabbpipmodgaaGreatDoor
section
open Go.aw
open Go.RowKit Go.Maps Go.Sort Go.Shelf
def uu(P:List Int):List Int:=P.mergeSort (λa b=>decide (a<=b))
variable{g3:List (Int×Value)}{a c:Nat}{C:Nat×Nat}{g:TypeId}{b:World}
def xU(w:bF b a (Value.int .i64) g3)(H:∀h∈g3,aK h.1)(x:g3.length*8<=aI)(y:b.heap[c]? =some (.cells #[.map (some a)] g C)):
  ZG 239 #[.func (.func 289) #[] #[XL c]] b
   (Ok λp z=>EU b 3 (uu (g3.map (·.1))) p z):=by
 unfold aI at x;obtain⟨e,i,I,m,J,K⟩:=w.at';have L:Tryz.prog.underlying 3=some (.int .i64):=Tryz.underlying3;have M:e.size=g3.length:=by have:=Zj List.length m;simpa using this
 have N:∀P:Int,aK P->(Lit.int .i64 P).wf=true:=λP j=>by unfold aK at j;simp[Lit.wf,IntKind.min,IntKind.max,IntKind.signed,IntKind.bits];omega
 have A:∀d∈e.toList,∃P,d.key=Value.int .i64 P/\aK P:=λd f=>by
  have O:(d.key,d.val)∈g3.map (λh=>(Value.int .i64 h.1,h.2)):=by rw[<-m];exact Xk.2 ⟨d,f,rfl⟩
  obtain⟨h,Q,R⟩:=Xk.1 O;exact⟨h.1,(Prod.mk.inj R).1.symm,H h Q⟩
 have B:∀d∈e.toList,∀P,d.key=Value.int .i64 P->aK P->WideElems.rd XP 3 (λ_=>some ((.nil:DataW Unit),[])) d=some (.int .i64 P,.nil):=λd _ P j k=>by
  simp[WideElems.rd,j,Maps.keyOf_int_mk L (N P k)]
 have S:WideElems.Fit XP 3 (λ_=>some ((.nil:DataW Unit),[])) e i:=by
  refine⟨by unfold maxLen;omega,⟨J,K,?_⟩,λd f=>?_⟩
  ·have:e.toList.map (·.key)=(g3.map (·.1)).map (Value.int .i64):=by
    have:=Zj (List.map (λq:Value×Value=>q.1)) m;simpa[Function.comp_def]using this
   rw[this];exact List.pairwise_map.2 (List.Pairwise.imp (λT=>by simpa using T) w.tidy)
  ·obtain⟨P,j,k⟩:=A d f
   exact⟨_,B d f P j k⟩
 have U:b.ownsMap XP 3 (λ_=>some ((.nil:DataW Unit),[])) a e.size (.map ((e.toList.map (WideElems.rg XP 3 (λ_=>some ((.nil:DataW Unit),[])))).foldr DataW.insert [])):=
  ⟨e,i,I,S,Q4 _,rfl⟩
 have E:Maps.size (.map ((e.toList.map (WideElems.rg XP 3 (λ_=>some ((.nil:DataW Unit),[])))).foldr DataW.insert []))=g3.length:=by
  show(List.foldr DataW.insert [] _).length=_;rw[(WideShapes.sorted_perm _).length_eq];simp[M]
 have V:(intKeys (.map ((e.toList.map (WideElems.rg XP 3 (λ_=>some ((.nil:DataW Unit),[])))).foldr DataW.insert []))).Perm (g3.map (·.1)):=by
  refine(List.Perm.map (λh:Lit×DataW Unit=>Go.intOf h.1) (WideShapes.sorted_perm _)).trans ?_;have:(e.toList.map (WideElems.rg XP 3 (λ_=>some ((.nil:DataW Unit),[])))).map (λh=>Go.intOf h.1)=g3.map (·.1):=by
   have W:e.toList.map (λd=>match d.key with| .int _ P=>P|_=>0)=g3.map (·.1):=by
    have:=Zj (List.map (λq:Value×Value=>match q.1 with| .int _ P=>P|_=>0)) m;simpa[Function.comp_def]using this
   rw[<-W,List.map_map];refine List.map_congr_left λd f=>?_;obtain⟨P,j,k⟩:=A d f;simp[WideElems.rg,B d f P j k,j,Go.intOf]
  rw[this]
 have X:SeqGives Fence.wide 1 XP 289 #[XL c] encZ (λl=>l.Perm (intKeys _)) (Maps.size _) b:=
  AnyZI.keys_gives (ρ:=Tryz.CZ) {Tryz.TG with} Fence.wide _ trivial rfl oM c a e.size _ b (ay y) (ae y rfl) U
 have Y:=AnyZI.sorted_in Tryz.QH Fence.wide 4 trivial trivial trivial trivial rfl oM (Tryz.SC _) (enters_of Tryz.func288 kR rfl) 289 #[XL c] trivial
  (enters_of Tryz.func289 kR rfl) _ _ (by rw[E];unfold maxLen;omega) (by rw[E];exact x) b X
 refine((callsIn_wide (n:=4)).1 Y).mono ?_;rintro d z ⟨p,l,rfl,Z,n,a5,r⟩;have F:l.mergeSort (λP a0=>decide (P<=a0))=uu (g3.map (·.1)):=mergeSort_of_perm_i (Z.trans V);have a6:l.length=(uu (g3.map (·.1))).length:=by rw[<-F];simp
 rw[F]at n;have hv:∃s t,p= .slice s l.length t:=by
  rcases n.2 with⟨rfl,h0⟩|⟨g',u,v,rfl,_⟩
  ·exact⟨none,0,by rw[h0]⟩
  ·exact⟨_,_,rfl⟩
 obtain⟨s,t,rfl⟩:=hv;refine Ok.mk ⟨s,_,t,rfl,⟨ownsRow_base_a n (Qj _)⟩,ak.FB r,λa1 o=>?_⟩;rcases n.2 with⟨f,_⟩|⟨g',u,v,f,a7,_⟩
 ·simp only[XX]at f
  rw[f.1]at o;cases o
 ·simp only[XX]at f
  rw[f.1]at o;simp only[aF,Q1]at o;omega
end
section
open Go.aw
structure iO where
 cQ:Int
 asked:List (Int×Int)
 heard:List (Int×List Int)
 deriving DecidableEq
def UW(P:Value)(a:Int):Prop:=P= XH a
def Mx(e:World)(f:XN)(g:Value)(b:List Int):Prop:=
 ∃P a c,g= .slice P a c/\Own e 3 1 P a c (ints b)/\a*8<=aI/\(∀h∈b,aK h)/\∀d,aF P=some d->f d
def Mx.af{S c F':XN}{b f:World}{g:Value}{h:List Int}(d:Mx b c g h)(m:ak S b f)(n:∀P,c P->P<b.heap.size->(∃i,b.heap[P]? =some i/\∀j k,i≠.map j k)->¬S P)(o:∀P,c P->F' P):Mx f F' g h:=by
 obtain⟨p,q,r,rfl,e,a,s,l⟩:=d;refine⟨p,q,r,rfl,e.af m (cV.2 λP a=>?_),a,s,λP a=>o P (l P a)⟩;refine n P (l P a) (e.lt a) ?_;rcases e.cases with⟨rfl,_⟩|⟨v,t,rfl,u,_⟩
 ·cases a
 ·simp only[aF,Q1]at a
  subst a;exact⟨_,u,λj k d=>by cases d⟩
structure dA (w:World) (p:Nat) (F:XN) (T:iO):Prop where
 body:∃ra rh la lh,w.heap[p]? =some (.cells #[XH T.cQ,.map (some ra),.map (some rh)] 150 (0,0))/\bF w ra (Value.int .i64) la/\bF w rh (Value.int .i64) lh/\
  eM UW la T.asked/\eM (Mx w F) lh T.heard/\F ra/\F rh/\ra≠rh
 self:F p
 aC:∀b,F b->b<w.heap.size
 HD:Tidy T.asked
 qX:∀q∈T.asked,aK q.1
variable{L:Bool}{e q:Int}{h5:List (Int×List Int)}{g3:List (Int×Value)}{b0 u:List Int}{a4 g4:List PanicEntry->XU}{F:List aj}{c4:List cN}{E a c i n:Nat}{f:XN}{C:Nat×Nat}{d r:ZH}{h:Program}{K:Prop}{j:Type}{g o:TypeId}{t:Value}{b k:World}{I:aM}{d0:aU}{M l:aj}{g5 g6:aj×Bool×Int}{B:au}{a9:ef}{b4:iO}{d1:iQ}
def dA.af{S f:XN}(P:dA b a f b4)(d:ak S b k)(e:∀c,f c->¬S c):dA k a f b4:=by
 obtain⟨j,l,m,n,o,p,q,r,s,h,i,t⟩:=P.body;exact⟨⟨j,l,m,n,d.get o (e _ P.self),p.af d (e _ h),q.af d (e _ i),r,s.mono λv w u=>u.af d (λc g _ _=>e c g) (λ_ P=>P),h,i,t⟩,
  P.self,λc g=>Qk (P.aC c g) d.size,P.HD,P.qX⟩
def dA.ah(P:dA b a f b4)(c:ai b k):dA k a f b4:=P.af c λ_ _ P=>P
def kI:gO XP 3 (Value.int .i64):=SQ Tryz.underlying3
def mA:lH XP 147 3 3 (XH 0):=⟨kR,kR⟩
def mH:lH XP 148 3 27 (.slice none 0 0):=⟨kR,kR⟩
def Hh:ZG 37 #[XH e] b
  (Ok λi d=>∃f g,i= XL f/\dA d f g ⟨e,[],[]⟩/\ai b d/\∀P,g P->b.heap.size<=P):=by
 refine Bk (PA.mk λj k q l=>PA.mk λm h r n=>PA.mk λo a s p=>Ok.mk ⟨m.heap.size,λP=>b.heap.size<=P/\P<o.heap.size,rfl,
  ⟨⟨b.heap.size,j.heap.size,[],[],p,bF.new (a.get (h.get l id) id),bF.new (a.get n id),trivial,trivial,oM,oM,oM⟩,oM,λP c=>c.2,by simp[Tidy],sM⟩,
  (k.ah h).ah a,λP c=>c.1⟩)
def Hn(P:dA b a f b4)(t:aK e):
  ZG 111 #[XL a,XH e,XH q] b
   (Ok λo j=>o= .tuple #[]/\dA j a f {b4 with asked:=aH b4.asked e q}/\ak f b j):=by
 obtain⟨c,u,K,v,k,p,w,x,y,r,z,s⟩:=P.body;have A:∃d g,b.heap[c]? =some (.map d g):=by obtain⟨d,g,P,_⟩:=p.at';exact⟨d,g,P⟩
 obtain⟨d,g,l⟩:=A;have B:a≠c:=by rintro rfl;rw[k]at l;cases l
 refine nT ⟨a,0,rfl,some c,ae k rfl,ie mA kI p λj C h E=>Ok.mk ⟨rfl,⟨⟨c,u,_,v,h.get k B,C,w.af h (Ne.symm s),eM.aH (R:=UW) rfl x,?_,r,z,s⟩,P.self,?_,P.HD.aH _ _,?_⟩,h.mono ?_⟩⟩
 ·refine y.mono λo L F=>F.af h (λm _ _ i=>?_) (λ_ P=>P)
  rintro rfl;obtain⟨M,i,H⟩:=i;rw[l]at i;cases i;exact H _ _ rfl
 ·intro m I;rw[E];exact P.aC m I
 ·intro J n
  rcases eF n with rfl|n
  ·exact t
  ·exact P.qX J n
 ·rintro m _ rfl;exact r
def iO.all(a:iO)(P:Int)(b:List Int):List Int:=gU ((aD a.heard P).getD []) b
def ES(a P:List Int):Bool:=pP a P==0||pP a P==2
def iO.ends(b:iO)(P:Int)(c a:List Int):Bool:=(aD b.asked P).isSome&&ES (b.all P c) a
def iO.xS(a:iO)(P:Int)(c b:List Int):iO:=
 {a with heard:=aH a.heard P (a.all P c),asked:=if a.ends P c b then bV a.asked P else a.asked}
def AG(b:∀c∈u,aK c)(P:Int):aK (eI u P):=by
 unfold eI;split
 ·unfold aK;omega
 ·by_cases a:P.toNat<u.length
  ·have:=b u[P.toNat] (XY a)
   simp only[List.getD,Qq a,Option.getD_some];unfold aK at*;omega
  ·have:u[P.toNat]? =none:=by simp;omega
   simp only[List.getD,this,Option.getD_none];unfold aK;omega
def CR(b:∀P∈u,aK P)(c:∀P∈b0,aK P):∀P∈gU u b0,aK P:=by
 intro P d;obtain⟨a,_,rfl⟩:=Xk.1 d;have e:=AG b a;have f:=AG c a;unfold aK at*;omega
def ET(P a:List Int):(gU P a).length=max P.length a.length:=qW _ _ _
def dA.QB(j:eM (Mx b f) g3 h5)(P:Int):
  ∃a c d,(aD g3 P).getD (.slice none 0 0)= .slice a c d/\Ints b a c ((aD h5 P).getD [])/\c*8<=aI/\∀h,aF a=some h->f h:=by
 rcases j.aD P with⟨e,g⟩|⟨n,o,e,g,a,c,d,rfl,k,i,l,m⟩
 ·rw[e,g];exact⟨none,0,0,rfl,Ints.nil b,by simp[aI],by simp[aF]⟩
 ·rw[e,g];exact⟨a,c,d,rfl,k.ints i l,i,m⟩
def Hd(P:dA b a f b4)(L:Ints b d c u)(hy:Ints b r i b0)(W:b0≠[]->nw f r):
  ZG 47 #[XL a,XH e,.slice d c n,.slice r i E] b
   (Ok λs q=>∃F',s= .bool (b4.ends e u b0)/\dA q a F' (b4.xS e u b0)/\cz f b F' q):=by
 obtain⟨p,v,F,lh,H,y,X,M,h5,Y,N,O⟩:=P.body;obtain⟨l,m,Q⟩:∃l m,b.heap[v]? =some (.map l m):=by obtain⟨l,m,P,_⟩:=X.at';exact⟨l,m,P⟩
 obtain⟨c9,d0,a6⟩:∃l m,b.heap[p]? =some (.map l m):=by obtain⟨l,m,P,_⟩:=y.at';exact⟨l,m,P⟩
 have b7:a≠v:=by rintro rfl;rw[H]at Q;cases Q
 have b8:a≠p:=by rintro rfl;rw[H]at a6;cases a6
 obtain⟨ha,hn,hc,hg,R,hB,hF⟩:=dA.QB h5 e;refine nU ⟨a,0,rfl,some v,ae H rfl,x_ mH kI X ⟨ha,hn,hc,hg,PC.ok (yI R L) ?_⟩⟩;rintro _ w1 ⟨w,z,S,rfl,Z,t,a7⟩;have b9:z=(b4.all e u).length:=by have:=Z.length;rw[iv,Nat.mul_one]at this;exact this.symm
 have a8:z*8<=aI:=by
  rw[b9];unfold iO.all;rw[ET];have:=R.len;have:=R.dq;have:=L.len;have:=L.dq;unfold aI at*;omega
 have a9:∀c0∈b4.all e u,aK c0:=CR R.Ry L.Ry;refine⟨w,z,S,rfl,a,0,rfl,some v,ae (t.get H id) rfl,ie mH kI (X.af t id) λj b1 A c1=>?_⟩;have I:aF w≠some v:=λk=>by have:=a7 _ k;have:=ay Q;omega
 have b2:Own j 3 1 w z S (ints (b4.all e u)):=Z.af A (cV.2 λr W=>by rintro rfl;exact I W);have c2:Ints j r i b0:=(hy.ah t).FC A λc3 a0 hq=>by rintro rfl;exact W c3 a0 hq N
 refine PC.ok (KP (b2.ints a8 a9) c2) ?_;rintro _ _ ⟨rfl,rfl⟩;have T:j.heap[a]? =some (.cells #[XH b4.cQ,.map (some p),.map (some v)] 150 (0,0)):=A.get (t.get H id) b7;have U:bF j p (Value.int .i64) F:=(y.af t id).af A O;refine⟨_,rfl,?_⟩
 let F':XN:=λg=>f g\/(b.heap.size<=g/\g<w1.heap.size)
 have a1:cz f b F' j:=⟨(t.af (S:=f)).trans A (λ_ _ P=>P) (by rintro g _ rfl;exact N),λg o=>o.imp id (·.1)⟩
 have b3:eM (Mx j F') (aH lh e (.slice w z S)) (aH b4.heard e (b4.all e u)):=by
  refine eM.aH ⟨w,z,S,rfl,b2,a8,a9,λg o=>.inr ⟨a7 g o,Z.lt o⟩⟩ (h5.mono λs ys J=>?_);refine(J.af t (F':=f) (λ_ _ _ _ P=>P) (λ_ P=>P)).af A (λg _ _ h=>?_) (λ_ P=>.inl P);rintro rfl;obtain⟨c4,h,I⟩:=h;rw[t.get Q id]at h;cases h;exact I _ _ rfl
 have b5:∀g,F' g->g<j.heap.size:=λg o=>by
  rw[c1];rcases o with o|o
  ·exact Qk (P.aC g o) t.size
  ·exact o.2
 have c5:dA j a F' {b4 with heard:=aH b4.heard e (b4.all e u)}:=
  ⟨⟨p,v,F,_,T,U,b1,M,b3,.inl Y,.inl N,O⟩,.inl P.self,b5,P.HD,P.qX⟩
 have a2:(aD F e).isSome=(aD b4.asked e).isSome:=by
  rcases M.aD e with⟨B,V⟩|⟨s,b6,B,V,_⟩<;>rw[B,V]<;>rfl
 have c6:∃g:Int,(aD F e).getD (XH 0)= XH g:=by
  rcases M.aD e with⟨B,V⟩|⟨s,b6,B,V,J⟩
  ·rw[B];exact⟨0,rfl⟩
  ·rw[B];exact⟨b6,J⟩
 obtain⟨k0,c7⟩:=c6;have no:b4.ends e u b0=false->Ok (λs q=>∃F',s= .bool (b4.ends e u b0)/\dA q a F' (b4.xS e u b0)/\cz f b F' q) (.returned (.bool false)) j:=λk=>
  Ok.mk ⟨F',by rw[k],by unfold iO.xS;rw[k];exact c5,a1⟩
 have a3:∀x,b4.ends e u b0=true->bF x p (Value.int .i64) (bV F e)->ak (·=p) j x->x.heap.size=j.heap.size->
   Ok (λs q=>∃F',s= .bool (b4.ends e u b0)/\dA q a F' (b4.xS e u b0)/\cz f b F' q) (.returned (.bool true)) x:=λx k hm C a5=>by
  obtain⟨d1,d2,c8⟩:∃l m,j.heap[p]? =some (.map l m):=by obtain⟨l,m,P,_⟩:=U.at';exact⟨l,m,P⟩
  refine Ok.mk ⟨F',by rw[k],?_,a1.af.trans C (λ_ _ P=>P) (by rintro g _ rfl;exact Y),a1.new⟩;unfold iO.xS;rw[k];refine⟨⟨p,v,_,_,C.get T b8,hm,b1.af C (Ne.symm O),M.bV,?_,.inl Y,.inl N,O⟩,.inl P.self,λg o=>by rw[a5];exact b5 g o,P.HD.bV e,λa0 hq=>P.qX a0 (fy hq)⟩;refine b3.mono λs ys J=>J.af C (λg _ _ h=>?_) (λ_ P=>P);rintro rfl;obtain⟨c4,h,I⟩:=h;rw[c8]at h;cases h;exact I _ _ rfl
 refine⟨λq=>j=q/\b4.ends e u b0=true,⟨a,0,rfl,some p,ae T rfl,lI mA kI U ?_⟩,?_⟩
 rotate_left
 ·rintro _ _ ⟨rfl,k⟩
  exact⟨a,0,rfl,some p,ae T rfl,IF mA kI U λx hm C a5=>a3 x k hm C a5⟩
 rw[c7];refine⟨k0,_,rfl,an.mk (λh=>?_) (λh=>an.mk (λh0=>an.mk (λy=>?_) (λy=>?_)) (λh0=>?_))⟩
 ·refine no ?_
  have:(aD b4.asked e).isSome=false:=by rw[<-a2];simpa using h
  simp[iO.ends,this]
 ·refine no ?_
  have w:(pP (b4.all e u) b0==0)=false:=by simpa[bne]using h0
  have K:(pP (b4.all e u) b0==2)=false:=by simpa[bne]using y
  simp[iO.ends,ES,w,K]
 ·have k:b4.ends e u b0=true:=by
   have a4:(aD b4.asked e).isSome=true:=by rw[<-a2];simpa using h
   have K:(pP (b4.all e u) b0==2)=true:=by simpa[bne]using y
   simp[iO.ends,ES,a4,K]
  exact⟨rfl,k⟩
 ·have k:b4.ends e u b0=true:=by
   have a4:(aD b4.asked e).isSome=true:=by rw[<-a2];simpa using h
   have K:(pP (b4.all e u) b0==0)=true:=by simpa[bne]using h0
   simp[iO.ends,ES,a4,K]
  exact⟨rfl,k⟩
def iO.open(P:iO):List Int:=uu (P.asked.map (·.1))
def JN(j:dA b a f b4)(d:b4.asked.length*8<=aI):
  ZG 168 #[XL a] b (Ok (EU b 3 b4.open)):=by
 obtain⟨k,C,p,E,q,r,F,e,H,I,J,K⟩:=j.body;refine oL ⟨a,0,rfl,some k,ae q rfl,PC.ok (φ:=λs g=>s= .func (.func 289) #[] #[XL b.heap.size]/\ai b g/\g.heap.size=b.heap.size+1/\
  g.heap[b.heap.size]? =some (.cells #[.map (some k)] 147 (0,0))) (gP (PA.mk λt P l h=>Ok.mk ⟨rfl,P,l,h⟩)) ?_⟩
 rintro _ t ⟨rfl,P,l,h⟩;have u:∀c∈p,aK c.1:=by
  intro c v;have:c.1∈b4.asked.map (·.1):=by rw[<-e.keys];exact Xk.2 ⟨c,v,rfl⟩
  obtain⟨w,i,x⟩:=Xk.1 this;rw[<-x];exact j.qX w i
 refine⟨_,rfl,PC.ok (xU (r.ah P) u (by rw[e.length];exact d) h) ?_⟩;rintro _ L ⟨m,n,o,rfl,y,z,A⟩;refine⟨m,n,o,rfl,Ok.mk ⟨m,n,o,rfl,?_,P.ah z,λB d=>by have:=A B d;omega⟩⟩;unfold iO.open;rw[<-e.keys];exact y
def Hf(d:dA b a f b4):
  ZG 63 #[XL a] b (Ok λt l=>t= .tuple #[]/\dA l a f ⟨b4.cQ,[],[]⟩/\ak f b l):=by
 obtain⟨g,h,C,E,e,m,n,F,H,o,p,j⟩:=d.body;obtain⟨P,c,q⟩:∃P c,b.heap[h]? =some (.map P c):=by obtain⟨P,c,d,_⟩:=n.at';exact⟨P,c,d⟩
 obtain⟨I,J,r⟩:∃P c,b.heap[g]? =some (.map P c):=by obtain⟨P,c,d,_⟩:=m.at';exact⟨P,c,d⟩
 have u:a≠h:=by rintro rfl;rw[e]at q;cases q
 have s:a≠g:=by rintro rfl;rw[e]at r;cases r
 refine nV ⟨a,0,rfl,some g,ae e rfl,GR mA m λK v i w=>⟨a,0,rfl,some h,ae (i.get e s) rfl,GR mH (n.af i (Ne.symm j)) λL x k y=>Ok.mk ⟨rfl,
  ⟨⟨g,h,[],[],k.get (i.get e s) u,v.af k j,x,trivial,trivial,o,p,j⟩,d.self,λz A=>by rw[y,w];exact d.aC z A,by simp[Tidy],sM⟩,?_⟩⟩⟩
 exact i.trans k (by rintro B _ rfl;exact o) (by rintro B _ rfl;exact p)
def fk(c a:Int)(b:List Int×List (Int×Int))(P:Int):List Int×List (Int×Int):=
 if IntKind.wrap .i64 (a-(aD b.2 P).getD 0)>=c then(b.1++[P],aH b.2 P a)else b
def iO.gZ(P:iO)(a:Int)(b:Nat):List Int×List (Int×Int):=(P.open.take b).foldl (fk P.cQ a) ([],P.asked)
def iO.due(a:iO)(P:Int):List Int:=(a.gZ P a.open.length).1
def iO.OB(P:iO)(a:Int):iO:={P with asked:=(P.gZ a P.open.length).2}
def iO.JO(b:iO)(P:Int)(c:b.open[a]? =some e):b.gZ P (a+1)=fk b.cQ P (b.gZ P a) e:=by
 unfold iO.gZ;rw[Qw,c];simp
def Mr(h:dA b a f b4)(c:b4.asked.length*8<=aI):
  ZG 113 #[XL a,XH e] b
   (Ok λJ L=>∃M a4 a5,J= .slice M a4 a5/\Own L 3 1 M a4 a5 (ints (b4.due e))/\dA L a f (b4.OB e)/\ak f b L/\∀P,aF M=some P->b.heap.size<=P):=by
 refine qA (PC.ok (JN h c) ?_);rintro _ N ⟨A,l,lc,rfl,m,s,hn⟩;have b2:∀g∈b4.open,aK g:=by
  intro g B;have:g∈b4.asked.map (·.1):=(List.mergeSort_perm _ _).mem_iff.1 B;obtain⟨t,u,rfl⟩:=Xk.1 this;exact h.qX t u
 have O:l=b4.open.length:=by have:=m.length;rw[iv,Nat.mul_one]at this;exact this.symm
 have b3:b4.open.length=b4.asked.length:=by simp[iO.open,uu]
 have b5:l*8<=aI:=by rw[O,b3];exact c
 have hL:Ints N A l b4.open:=m.ints b5 b2;have b6:nw f A:=cV.2 λP c Q=>by have:=hn P c;have:=h.aC P Q;omega
 unfold aI at c;have d2:nw f none:=nw.none;refine⟨A,l,lc,rfl,λa6 v w R i n=>∃d:Nat,i=d/\d<=l/\a6=l-d/\Own n 3 1 v w R (ints (b4.gZ e d).1)/\w<=d/\dA n a f {b4 with asked:=(b4.gZ e d).2}/\ak f b n/\Ints n A l b4.open/\N.heap.size<=n.heap.size/\
   (∀P,aF v=some P->N.heap.size<=P),⟨_,0,rfl,Qj _,rfl,Own.nil _ _ _,Qj _,h.ah s,s.af,hL,Q4 _,by simp[aF]⟩,?_⟩
 rintro a6 v w R i _ n ⟨d,rfl,d3,rfl,S,d4,C,T,U,b7,p⟩;refine an.mk (λx=>?_) (λx=>?_)
 ·have x:=XV x
  obtain⟨P,V,g,rfl,d5,B,b8,hc⟩:=U.at (i:=(d:Int)) oM oM;rw[Qx]at B;have a7:=b4.JO e B;obtain⟨ra,rh,Vy,lh,t1,t2,t3,t4,t5,t6,t7,t8⟩:=C.body;refine⟨P,V,rfl,oM,oM,g,hc,a,0,rfl,some ra,ae t1 rfl,?_⟩;have b9:(aD Vy g).getD (XH 0)= XH ((aD (b4.gZ e d).2 g).getD 0):=by
   rcases t4.aD g with⟨W,X⟩|⟨J,d6,W,X,Y⟩
   ·rw[W,X];rfl
   ·rw[W,X];exact Y
  refine⟨(aD (b4.gZ e d).2 g).getD 0,λc0=>?_,a,0,rfl,b4.cQ,ae t1 rfl,λw3 hd=>?_⟩
  ·have:=dL mA kI (t2.af (ak.drewN (S:=λ_=>False) n c0) id) g false
   simpa[b9]using this
  have j:ai n w3:=hd.af;refine an.mk (λo=>?_) (λo=>?_)
  ·have o:=XV o
   refine PA.mk λw4 q s4 g4=>?_;refine J_ Rt ((S.ah j).ah q) g4 (by unfold aI at*;omega) λa' c' w5 a8 E K=>?_;refine⟨a',w+1,c',rfl,a,0,rfl,?_⟩;have c1:∀P,f P->¬(some P=aF v):=λP Q Z=>by have:=p P Z.symm;have:=h.aC P Q;have:=s.size;omega
   have y:dA w5 a f {b4 with asked:=(b4.gZ e d).2}:=((C.ah j).ah q).af E c1;obtain⟨k,a0,a9,a1,a2,b0,c2,c3,c4,a3,c5,b1⟩:=y.body;refine⟨some k,ae a2 rfl,ie mA kI b0 λw6 c6 r c7=>?_⟩;obtain⟨F,H,I⟩:∃F H,w5.heap[k]? =some (.map F H):=by obtain⟨F,H,h,_⟩:=b0.at';exact⟨F,H,h⟩
   have c8:a≠k:=by rintro rfl;rw[a2]at I;cases I
   have c9:dA w6 a f {b4 with asked:=aH (b4.gZ e d).2 g e}:=by
    refine⟨⟨k,a0,_,a1,r.get a2 c8,c6,c2.af r (Ne.symm b1),eM.aH (R:=UW) rfl c3,?_,a3,c5,b1⟩,y.self,λP c=>by rw[c7];exact y.aC P c,y.HD.aH _ _,?_⟩
    ·refine c4.mono λJ ys Y=>Y.af r (λt _ _ m=>?_) (λ_ h=>h)
     rintro rfl;obtain⟨d7,m,d0⟩:=m;rw[I]at m;cases m;exact d0 _ _ rfl
    ·intro t u
     rcases eF u with rfl|u
     ·exact b8
     ·exact y.qX t u
   have z:b4.gZ e (d+1)=((b4.gZ e d).1++[g],aH (b4.gZ e d).2 g e):=by rw[a7];unfold fk;rw[Zx o]
   have d1:∀P,aF a'=some P->P≠k:=λP c=>by
    rintro rfl;exact a8.Rz I c
   refine⟨_,?_,d+1,?_,oM,rfl,?_,oM,by rw[z];exact c9,?_,?_,?_,?_⟩
   ·omega
   ·rw[wrap_i64 bb];simp
   ·rw[z];exact a8.af r (cV.2 d1)
   ·refine(((T.ah j).ah q).new E ?_).trans r (λ_ _ h=>h) (by rintro t _ rfl;exact a3)
    intro P c;right;have:=p P c.symm;have:=s.size;omega
   ·refine(((U.ah j).ah q).af E (cV.2 λP c Z=>?_)).af r (cV.2 λP c=>?_)
    ·have:=p P Z.symm;have:=m.lt c;omega
    ·rintro rfl;exact cV.1 b6 P c a3
   ·have:=j.size;have:=q.size;have:=E.size;omega
   ·intro P c
    rcases K with K|K
    ·exact p P (K▸c)
    ·rw[K]at c;cases c;have:=j.size;have:=q.size;omega
  ·have o:=Xy o
   have z:b4.gZ e (d+1)=b4.gZ e d:=by rw[a7];unfold fk;rw[Zq o]
   refine⟨_,?_,d+1,?_,oM,rfl,by rw[z];exact S.ah j,oM,by rw[z];exact C.ah j,T.ah j,U.ah j,Xx b7 j.size,p⟩
   ·omega
   ·rw[wrap_i64 bb];simp
 ·have x:=Xy x
  obtain rfl:d=l:=oM
  refine Ok.mk ⟨v,w,R,rfl,?_,?_,T,λP c=>Xx s.size (p P c)⟩
  ·unfold iO.due;rw[<-O];exact S
  ·unfold iO.OB;rw[<-O];exact C
structure cy where
 bR:Int
 tR:Int
 bN:Int
 chunk:Int
 buffer:Int
 cQ:Int
 every:Int
 start:Int
 decl:aM
structure bD where
 S:au
 D:al
 log:Option ef
 waits:List aj
 fr:iO
def je(P:cy)(a:Int):Bool:=
 within P.bR 1 64&&within a 0 (P.bR-1)&&within P.tR 64 262144&&decide (P.bN>=1)&&decide (P.every>=1)&&within P.chunk 1 32&&within P.buffer 1 256&&within P.cQ 1 1048576&&decide (P.start>=0)
section
variable (c:cy) (self:Int)
def gI(a:bD):Int×bD:=
 let P:=eg a.D c.bN
 if P.no≠0 then(P.no,{a with D:=P.D,log:=none,S:=⟨c.bR.toNat,[]⟩})
 else(0,{a with D:=P.D,log:=some P.V,S:=(⟨c.bR.toNat,[]⟩:au).e_ P.out})
def EG:Int×bD:=gI c ⟨⟨c.bR.toNat,[]⟩,Sc c.tR.toNat,none,[],⟨c.cQ,[],[]⟩⟩
def dZ(P:au)(a:List aj):au:=(⟨c.bR.toNat,[]⟩:au).e_ (P.l++a)
def cR(a:bD)(d:List aj):Int×bD:=match a.log with
 |none=>(15,a)
 |some e=>
  let P:=bk e a.D d
  if P.1≠0 then(P.1,{a with log:=some P.2.1,D:=P.2.2})else
  let b:=P.2.2.sync P.2.1.last
  if b.1≠0 then(b.1,{a with log:=some P.2.1,D:=b.2})else
  (0,{a with log:=some P.2.1,D:=b.2,S:=dZ c a.S d})
def bI(P:bD)(d:iQ):Int×(Int×Int)×bD:=match P.log with
 |none=>(15,(0,0),P)
 |some _=>
  let a:=lX c.decl P.S (cf c.decl P.S.l) self c.start d
  if a.2.2≠0 then(a.2.2,(0,0),P)else
  if a.2.1 then(let b:=cR c P [a.1];if b.1≠0 then(b.1,(0,0),b.2)else(0,aR a.1,b.2))
  else(0,aR a.1,P)
def fO(a:bD)(P b:Int):List cN×bD:=
 if P<0\/P>=c.bR\/P=self then([],a)else([jv a.S self P],{a with fr:={a.fr with asked:=aH a.fr.asked P b}})
def Ho(b:bD)(P:Int):List cN×bD:=((b.fr.due P).map λa=>jv b.S self a,{b with fr:=b.fr.OB P})
def g_(P:Nat):List aj->au->List aj->List aj->au×List aj×List aj
 |[],b,a,c=>(b,a,c)
 |e::d,b,a,c=>
  if(b.add e).1=0 then g_ P d (b.add e).2 (a++[e]) c
  else if(b.add e).1=16 then g_ P d b a c
  else g_ P d b a (eH P c e).2
def ej:List aj->au->List aj->au×List aj
 |[],a,P=>(a,P)
 |e::b,a,P=>if(a.add e).1=0 then ej b (a.add e).2 (P++[e])else ej b (a.add e).2 P
def uy:Nat->au->List aj->List aj->List aj×List aj
 |0,b,P,c=>(P,c)
 |k+1,b,P,c=>
  let a:=bt b c
  if a.1=[]then(P,a.2)else
  let d:=ej a.1 b P
  uy k d.1 d.2 a.2
def jV(a:bD)(b:List aj):List aj×List aj:=
 let P:=g_ c.buffer.toNat b (dZ c a.S []) [] a.waits
 uy (P.2.2.length+1) P.1 P.2.1 P.2.2
def nj(P:bD)(b:cN):List cN×Int×bD:=
 let d:=jV c P b.events
 let P:={P with waits:=d.2}
 if d.1=[]then([xR P.S self b.bB],0,P)else
 let a:=cR c P d.1
 if a.1≠0 then([],a.1,{a.2 with waits:=[]})else([xR a.2.S self b.bB],0,a.2)
def bT(P:bD)(a:cN):List cN×Int×bD:=match P.log with
 |none=>([],15,P)
 |some _=>
  let no:=eW a c.bR.toNat c.chunk
  if no≠0 then([],no,P)else
  if a.og≠self then([],1,P)else
  if a.kind=3 then nj c self P a else
  let P:={P with fr:=P.fr.xS a.bB a.vec P.S.vec}
  if a.kind≠4 then(kK P.S self a c.chunk,0,P)else
  let b:=P.S.missing a.vec c.chunk
  if b=[]then([],0,P)else([⟨3,self,a.bB,[],b⟩],0,P)
def Aa(P:bD)(a:Int):Int×bD:=gI c {P with D:=yJ (P.D.zD a),waits:=[],fr:=⟨P.fr.cQ,[],[]⟩}
def gH(P:bD):Int×bD:=match P.log with
 |none=>(15,P)
 |some b=>
  let a:=cm b P.D P.S.l c.bN
  if a.no≠0 then(a.no,{P with D:=a.D})else(0,{P with D:=a.D,log:=some a.V})
end
structure E_ where
 m:cN
 va:ZH
 vn:Nat
 vc:Nat
 ea:ZH
 en:Nat
 ec:Nat
def Qf:jh E_:=flat 5 (λP=>bH P.m P.va P.vn P.vc P.ea P.en P.ec) (λ_=>True) (λ_=>rfl) (λb c a=>by
 simp only[bH,Q2,List.not_mem_nil,or_false]at a;rcases a with rfl|rfl|rfl|rfl|rfl<;>rfl)
def E_.In(a:World)(D:XN)(P:E_):Prop:=Row aG 8 a D P.va P.vn P.m.vec/\Row fY 96 a D P.ea P.en P.m.events
def KK:iu XP 56 60 Qf.k 72:=⟨kR,kR,dC⟩
def aZ(c:World)(g:List cN)(h:Value)(b:World):Prop:=
 ∃(a:ZH) (e f:Nat) (d:List E_) (D:XN),h= .slice a e f/\aO Qf 60 (λP=>aF a=some P) b a e f d/\d.map (·.m)=g/\(∀P∈d,P.In b D)/\(∀P,D P->c.heap.size<=P/\P<b.heap.size/\aF a≠some P)/\(∀P,aF a=some P->c.heap.size<=P)/\ai c b
section
variable {w w':World} {p:Nat} {F D:XN} {S:au} {a:ZH} {n c:Nat}
def E_.In.af{P:E_}(a:P.In w D)(b:ak f w w')(c:∀P,D P->¬f P):P.In w' D:=⟨a.1.af b c,a.2.af b c⟩
def E_.In.mono{P:E_}(a:P.In w D)(b:∀P,D P->f P):P.In w f:=⟨a.1.mono b,a.2.mono b⟩
def dy{P:jh j}{bytes:Nat}(w:World)(D:XN):Row P bytes w D none 0 []:=⟨rfl,sM,λb c a=>by simp at a⟩
def aZ.nil(w:World):aZ w [] (.slice none 0 0) w:=⟨none,0,0,[],λ_=>False,rfl,(aO.nil w).mono (λa P=>P.elim) (λa P=>(by cases P)),rfl,sM,λa P=>P.elim,λa P=>(by cases P),ak.refl _⟩
def aZ.ah(f:aZ b c4 t w)(e:ai w w'):aZ b c4 t w':=by
 obtain⟨a,n,c,h,D,i,j,k,l,g,m,o⟩:=f;exact⟨a,n,c,h,D,i,j.ah e,k,λP d=>(l P d).af e λ_ _ f=>f,λP d=>⟨(g P d).1,by have:=e.size;have:=(g P d).2.1;omega,(g P d).2.2⟩,m,o.then e⟩
def aZ.push(t:aZ b c4 (.slice a n c) w)(L:iu h g 60 Qf.k 72){m:cN}{j k l p x:Nat}{E:XN}(M:(⟨m,d,j,k,r,l,p⟩:E_).In w E)(y:∀P,E P->b.heap.size<=P/\P<w.heap.size/\aF a≠some P)(N:w.heap[x]? =some (.cells (bH m d j k r l p).toArray 60 C))(V:c4.length<=1000){z O:XR}(u:∀f i w',aZ b (c4++[m]) (.slice f (n+1) i) w'->ak (λP=>aF a=some P) w w'->z (.slice f (n+1) i) w'):
  aE h (Builtin.append_ #[g,g] o #[.slice a n c,.slice (XM x) 1 1]) w z O:=by
 obtain⟨W,X,Y,v,D,Q,R,A,S,B,F,H⟩:=t
 cases Q
 have Z:v.length=c4.length:=by rw[<-A,Q8]
 refine dP (c:=Qf) (x:=⟨m,d,j,k,r,l,p⟩) (D:=λ_=>False) R L N ⟨rfl,trivial⟩ (λP e=>e.elim) ba (by unfold maxLen;omega) λf i w' F' q s T=>?_;have I:∀P,aF f=some P->aF a=some P\/w.heap.size<=P:=λP e=>(T P (q.self P e)).imp id λt=>t.resolve_left id;have a0:=s.size;have z7:=H.size;refine u f i w' ⟨f,n+1,i,v++[⟨m,d,j,k,r,l,p⟩],λP=>D P\/E P,rfl,(show aO Qf 60 (λP=>aF f=some P) w' f (n+1) i (v++[⟨m,d,j,k,r,l,p⟩])from q.alone),by rw[Q3,A];rfl,λP e=>?_,λP e=>?_,λP e=>?_,H.new s λP e=>.inr (F P e)⟩ s
 ·rcases Q6.1 e with e|e
  ·exact((S P e).af s λP e=>(B P e).2.2).mono λP e=>.inl e
  ·simp at e;subst e
   exact(M.af s λP e=>(y P e).2.2).mono λP e=>.inr e
 ·have J:b.heap.size<=P/\P<w.heap.size/\aF a≠some P:=e.elim (B P) (y P)
  exact⟨J.1,oM,λU=>(I P U).elim J.2.2 oM⟩
 ·rcases I P e with K|K
  ·exact F P K
  ·omega
def KR(z:aZ b c4 (.slice a n c) w)(O:c4.length<=1000):
  ZG 103 #[XH e,XH q,.slice a n c] w (Ok λA w'=>aZ b (c4.map λm=>{m with bB:=e,og:=q}) A w'):=by
 obtain⟨Q,R,S,d,D,B,s,x,C,o,y,E⟩:=z
 cases B
 have T:d.length=c4.length:=by rw[<-x,Q8]
 have U:=s.len dC;obtain⟨g,j⟩:∃g:E_->E_,g=λf=>{f with m:={f.m with bB:=e,og:=q}}:=⟨_,rfl⟩
 refine Iv ⟨λm h w'=>∃P:Nat,h=P/\P<=n/\m=n-P/\aO Qf 60 (λf=>aF a=some f) w' a n c ((d.take P).map g++d.drop P)/\ak (λf=>aF a=some f) w w',⟨_,0,rfl,Qj _,rfl,by simpa using s,ak.refl _⟩,?_⟩;rintro m _ _ V ⟨P,rfl,W,rfl,t,p⟩;refine an.dec (λX=>?_) (λY=>?_)
 ·have r:d[P]? =some d[P]:=Qq oM
  have k:∃l,a=XM l:=by
   obtain⟨cs,D,F,-⟩:=s.body;rcases F.cases with⟨_,Z,_,_⟩|⟨l,H,rfl,_⟩
   ·omega
   ·exact⟨l,rfl⟩
  obtain⟨l,k⟩:=k;have u:((d.take P).map g++d.drop P)[P]? =some d[P]:=by
   rw[X8 bc];simp[Qy,X2 (show P<=d.length by omega)]
  generalize d[P]=h at r u;have I:P<((d.take P).map g++d.drop P).length:=(Qv.1 u).1;refine⟨l,0,k,oM,oM,?_⟩;rw[Qx];refine aO.set (x':={h with m:={h.m with bB:=e}}) (j:=1) t u dC rfl k λa3 J K a4=>⟨l,0,k,oM,oM,?_⟩
  refine aO.set (x:={h with m:={h.m with bB:=e}}) (x':=g h) (j:=2) J (by rw[List.getElem?_set_self I]) dC (by rw[j];rfl) k λa5 v L a6=>⟨_,?_,P+1,aq oM,oM,rfl,?_,(p.then K).then L⟩
  ·omega
  ·rw[List.set_set]at v
   have M:((d.take P).map g++d.drop P).set P (g h)=(d.take (P+1)).map g++d.drop (P+1):=by
    have N:((d.take P).map g).length=P:=by simp;omega
    rw[Qw,r,Q3,XQ,List.set_append,Zq oM,N,Nat.sub_self,X4 (show P<d.length by omega)];rfl
   rw[M]at v;exact v
 ·obtain rfl:P=n:=oM
  rw[Qz oM,List.drop_eq_nil_of_le oM,List.append_nil]at t;refine Ok.mk ⟨a,P,c,d.map g,D,rfl,t,?_,λf i=>?_,λf i=>⟨(o f i).1,by have:=p.size;have:=(o f i).2.1;omega,(o f i).2.2⟩,y,E.new p λf i=>.inr (y f i)⟩
  ·rw[<-x,List.map_map,List.map_map,j];rfl
  ·obtain⟨h,r,rfl⟩:=Xk.1 i
   have:=(C h r).af p λf i=>(o f i).2.2;rw[j];exact this
end
section
variable {w w':World} {p:Nat} {F D E:XN} {S:au} {m:cN} {va ea:ZH} {vn vc en ec:Nat}
def aZ.FC(e:aZ b c4 t w)(c:ai w' b):aZ w' c4 t w:=by
 obtain⟨f,g,h,i,D,j,k,l,m,d,n,o⟩:=e;have:=c.size;exact⟨f,g,h,i,D,j,k,l,m,λP a=>⟨by have:=(d P a).1;omega,(d P a).2⟩,λP a=>by have:=n P a;omega,c.then o⟩
def aZ.len(P:aZ b c4 (.slice d a c) w):a=c4.length:=by
 obtain⟨h,i,j,k,D,e,f,g,-⟩:=P
 cases e
 rw[f.len dC,<-g,Q8]
def aZ.sl(P:aZ b c4 t w):∃a c d,t= .slice a c d:=by
 obtain⟨f,g,h,i,D,e,-⟩:=P;exact⟨_,_,_,e⟩
def He(h:cj w p F S)(hl:S.l.length<=20000000)(Z:Row aG 8 w D va vn m.vec):
  ZG 49 #[XL p,XH e,iY m va vn vc ea en ec,XH q] w (Ok (aZ w (kK S e m q))):=by
 have hS:=h.1;have hN:=hS.n;refine Bp (PA.mk λb n f7 x=>⟨λw'=>b=w'/\(m.kind=1\/m.kind=2),⟨_,ae x rfl,an.df (λo=>⟨_,ae x rfl,an.df (λd=>Ok.mk ?_) (λd=>⟨rfl,.inr d⟩)⟩) (λo=>⟨rfl,.inl o⟩)⟩,?_⟩)
 ·unfold kK;rw[Zx ⟨o,d⟩];exact(aZ.nil b).FC n
 rintro _ _ ⟨rfl,hk⟩;have b9:¬(m.kind≠1/\m.kind≠2):=oM
 obtain⟨s,K⟩:∃s,s=S.missing m.vec (max 1 (min q 32)):=⟨_,rfl⟩
 have b4:(if(if 32<q then 32 else q)>1 then(if 32<q then 32 else q)else 1)=max 1 (min q 32):=by split<;>split<;>omega
 obtain⟨f,E⟩:∃f:List cN,f=if 0<s.length then [⟨3,0,0,[],s⟩]else []:=⟨_,rfl⟩
 have g0:f.length<=1:=by rw[E];split<;>simp
 refine⟨λi j k w'=>aZ b f (.slice i j k) w'/\ai b w',⟨_,_,_,ae x rfl,?_⟩,?_⟩
 ·refine PC.ok (by rw[b4];exact wN (h.ah n) hl (Z.ah n)) ?_
  rw[<-K];rintro _ g1 ⟨b7,n2,y,G,rfl,L,H,hG⟩;have g2:=L.len dC;have e0:=L.aC;refine⟨_,_,_,rfl,an.dec (λf4=>PA.mk λg3 M g4 e1=>?_) (λhz=>⟨?_,H⟩)⟩
  rotate_left
  ·rw[E,Zq oM]
   exact(aZ.nil b).ah H
  have g5:s.length<=20000000:=by
   rw[K];unfold au.missing;rw[Qy];have:=List.length_filter_le (λg:aj=>decide (max 0 (eI m.vec g.origin)<g.seq)) S.l;omega
  refine aZ.push (m:=⟨3,0,0,[],s⟩) (E:=G) ((aZ.nil b).ah (H.then M)) KK ⟨dy _ _,(L.ah M).row dC ba⟩ (λP a=>⟨by have:=hG P a;omega,by have:=e0 P a;omega,λg=>by cases g⟩) e1 sM λa' c' g6 c0 e2=>⟨_,_,_,rfl,?_,?_⟩
  ·rw[E,Zx oM];exact c0
  ·exact(H.then M).new e2 λP a=>(by cases a)
 rintro I on oc _ e3 ⟨N,O⟩;have a0:=n.then O;have e4:=O.size;refine PC.ok (kp (h.ah a0)) ?_;rintro _ u ⟨a3,n3,c3,G3,rfl,c4,c6,c7⟩;have g7:=a0.size;have c8:=c4.aC;have c9:Row aG 8 u G3 a3 n3 S.vec:=c4.row dC (by rw[S.bq];unfold aI;omega);obtain⟨c,v⟩:∃c:List cN,c=if m.kind=1/\(pP m.vec S.vec=2\/pP m.vec S.vec=3)then [⟨2,0,0,S.vec,[]⟩]else []:=⟨_,rfl⟩
 have g8:c.length<=1:=by rw[v];split<;>simp
 have z:=O.then c6;have Q:∀P,aF I=some P->P<e3.heap.size:=λP a=>by
  obtain⟨a1,n1,t,a2,D,l,d,-⟩:=N
  cases l
  exact d.aC P a
 refine⟨_,_,_,rfl,λi j k w'=>aZ b (f++c) (.slice i j k) w'/\w'.heap[w.heap.size]? =some (.cells (bH m va vn vc ea en ec).toArray 60 (0,0))/\ai b w',⟨_,_,_,ae (z.get x id) rfl,PC.ok (KP ((Z.ah (n.then z)).rK) c9.rK) ?_⟩,?_⟩
 ·rintro _ _ ⟨rfl,rfl⟩
  have R:=z.get x id;have a4:=N.ah c6;have r:∀P,aF I=some P->b.heap.size<=P:=λP a=>by
   obtain⟨a1,n1,t,a2,D,l,d,A,h4,h5,T,h7⟩:=N
   cases l
   exact T P a
  have no:c=[]->aZ b (f++c) (.slice I on oc) u/\u.heap[w.heap.size]? =some (.cells (bH m va vn vc ea en ec).toArray 60 (0,0))/\ai b u:=λa=>⟨by rw[a,List.append_nil];exact a4,R,z⟩
  have B:∀{ε:XR} {U:ZH->Nat->Nat->XU},c=[⟨2,0,0,S.vec,[]⟩]->(∀i j k w',aZ b (f++c) (.slice i j k) w'/\w'.heap[w.heap.size]? =some (.cells (bH m va vn vc ea en ec).toArray 60 (0,0))/\ai b w'->U i j k w')->
    PA u (.cells #[XH 2,XH 0,XH 0,.slice a3 n3 c3,.slice none 0 0] 60) λd0=>aE XP (Builtin.append_ #[56,56] 56 #[.slice I on oc,.slice (XM u.heap.size) 1 1]) d0 (λe5 d1=>∃(a5:ZH) (a6:Nat) (a7:Nat),e5= .slice a5 a6 a7/\U a5 a6 a7 d1) ε:=λ{ε U} a V=>by
   refine PA.mk λd0 J g9 e6=>aZ.push (m:=⟨2,0,0,S.vec,[]⟩) (E:=G3) (a4.ah J) KK ⟨c9.ah J,dy _ _⟩ (λP a=>⟨by have:=c7 P a;omega,by have:=c8 P a;omega,λg=>by have:=Q P g;have:=c7 P a;omega⟩) e6 oM λa' c' d1 d2 d3=>⟨_,_,_,rfl,V _ _ _ _ ⟨by rw[a];exact d2,d3.get (J.get R id) λg=>?_,?_⟩⟩
   ·have:=r _ g;omega
   ·exact(z.then J).new d3 λP a=>.inr (r P a)
  refine⟨_,rfl,_,ae R rfl,an.dJ (λo=>an.dJ (λd=>B (by rw[v,Zx ⟨o,.inl d⟩]) λi j k w' h=>h) (λd=>an.dJ (λA=>B (by rw[v,Zx ⟨o,.inr A⟩]) λi j k w' h=>h) (λA=>no (by rw[v,Zq];rintro⟨-,h|h⟩;exact d h;exact A h)))) (λo=>no (by rw[v,Zq λh=>o h.1]))⟩
 rintro e7 h8 h9 _ e8 ⟨C,W,a8⟩;have d4:=n.then a8;have e9:=a8.size;have a9:=C.len;have f5:(f++c).length<=2:=by rw[QX];omega
 have b0:∀{X:List cN},(if(f++c).isEmpty then [xR S e m.bB]else(f++c).map λb5=>{b5 with bB:=e,og:=m.bB})=X->kK S e m q=X:=λ{X} hq=>by
  rw[<-hq];unfold kK;rw[Zq b9,<-K];rw[E,v];have p1:(decide (pP m.vec S.vec=2\/pP m.vec S.vec=3))=decide (pP m.vec S.vec=2\/pP m.vec S.vec=3):=rfl
  by_cases t:0<s.length<;>by_cases y:m.kind=1/\(pP m.vec S.vec=2\/pP m.vec S.vec=3)
  ·simp[t,y]
  ·simp[t,y]
  ·simp[t,y]
  ·simp[t,y]
 refine an.dJ (λh0=>⟨_,ae W rfl,PC.ok (GV (h.ah d4)) ?_⟩) (λh0=>⟨_,ae W rfl,PC.ok (KR C oM) ?_⟩)
 ·have l:f++c=[]:=QW oM
  rintro _ i0 ⟨b8,n5,c5,G5,rfl,d5,d6,d7⟩;have d8:=d5.aC;rw[l]at C;refine⟨_,_,_,_,_,_,_,_,_,rfl,PA.mk λi1 Y i2 f2=>?_⟩;have b1:∀P,aF e7=some P->b.heap.size<=P/\P<e8.heap.size:=λP a=>by
   obtain⟨a1,n1,t,a2,D,l,d,A,h4,h5,T,h7⟩:=C
   cases l
   exact⟨T P a,d.aC P a⟩
  refine aZ.push (m:=xR S e m.bB) (E:=G5) (C.ah (d7.then Y)) KK ⟨(d5.ah Y).row dC (by show S.vec.length*8<=aI;rw[S.bq];unfold aI;omega),dy _ _⟩ (λP a=>⟨by have:=d6 P a;have:=d4.size;omega,by have:=d8 P a;omega,λg=>by have:=(b1 P g).2;have:=d6 P a;omega⟩) f2 sM λa' c' i3 d9 f3=>⟨_,_,_,rfl,_,ae (f3.get ((d7.then Y).get W id) λg=>by have:=(b1 _ g).1;omega) rfl,?_⟩
  refine PC.ok (KR d9 sM) ?_;rintro b6 i4 b2;obtain⟨i,j,k,rfl⟩:=b2.sl;refine⟨_,_,_,rfl,Ok.mk ?_⟩;rw[b0 (Zx (by rw[l];rfl))];exact b2.FC n
 ·rintro b6 i5 b3
  obtain⟨i,j,k,rfl⟩:=b3.sl;refine⟨_,_,_,rfl,Ok.mk ?_⟩;rw[b0 (Zq (by
   intro l;have:f++c=[]:=by simpa using l
   rw[this]at a9;simp at a9;omega))]
  exact b3.FC n
end
section
variable {w w':World} {D Fs Fv:XN} {s v:Nat} {S:au} {V:aU} {d:aM} {c:iQ} {origin start:Int}
def ur(w:World)(P:aj×Bool×Int)(d:Value)(w':World):Prop:=∃b c e G,d= .tuple #[jf P.1 b c e,.bool P.2.1,XH P.2.2]/\Row aG 8 w' G b c P.1.aN/\(∀a,G a->w.heap.size<=a/\a<w'.heap.size)/\ai w w'
def lY(d:aM)(s:au)(v:aU)(origin start:Int)(c:iQ):lX d s v origin start c=if ez d c≠0 then(qu,false,ez d c)else
  match s.keyed c.key with
  |some P=>(P,false,0)
  |none=>if¬(c.expect= -1\/c.expect=((v.state c.aT c.agg).getD ⟨0,[]⟩).version)then(qu,false,11)else
   if uS (d.at c.aT) (match v.state c.aT c.agg with|some a=>a.cells|none=>cP (d.at c.aT)) c.field c.op c.arg≠0 then(qu,false,10)else
   ((aQ c origin s.vec (max s.top start)).2,decide ((aQ c origin s.vec (max s.top start)).1=0),(aQ c origin s.vec (max s.top start)).1):=rfl
def BT{ta pa:ZH}{tn tc pn pc:Nat}(hT:et w)(hd:aW w D d ta tn pa pn)(hD:∀P,D P->P<w.heap.size)(j0:cO d=0)(hs:cj w s Fs S)(j1:S.l.length<=20000000)(hv:b_ w v Fv V)(j2:V.decl=d)(o4:start<=9223372036854775807)(o1:S.top<=9223372036854775807):
  ZG 42 #[.agg #[.slice ta tn tc,.slice pa pn pc],XL s,XL v,XH origin,XH start,oF c] w (Ok (ur w (lX d S V origin start c))):=by
 refine xm (PA.mk λw1 k1 s1 g1=>PA.mk λw2 k2 s2 g2=>PA.mk λw3 k3 s3 g3=>?_);have q:=(k1.then k2).then k3;have gd:=k3.get (k2.get g1 id) id;have gc:=k3.get g2 id;have y:∀{z:World} {no:Int},ai w3 z->lX d S V origin start c=(qu,false,no)->w_ XP 55 (XL w2.heap.size) (jf qu none 0 0) z λt=>nK XP 55 (XL w2.heap.size) t λr=>Ok (ur w (lX d S V origin start c)) (.returned (.tuple #[r,.bool false,XH no])) t:=λ{z no} h4 R=>
  az (aV qu none 0 0) (h4.get g3 id) rfl λt k5 s5 g5=>ar (aV qu none 0 0) g5 (Ok.mk ⟨none,0,0,λ_=>False,by rw[R],by rw[R];exact Row.nil _ _,λP a=>a.elim,(q.then h4).new k5 λP a=>.inr oM⟩)
 refine⟨_,_,_,_,_,_,ae gd rfl,ae gd rfl,ar (vX c) gc (PC.ok (Bf (hT.ah q) (hd.ah q) λP a=>by have:=hD P a;omega) ?_)⟩;rintro _ z ⟨rfl,T⟩;refine⟨_,rfl,an.df (λU=>y T (by rw[lY,Zx U])) (λe5=>⟨_,ae (T.get gc id) rfl,PC.ok (My (hs.ah (q.then T)) j1) ?_⟩)⟩;rintro _ t ⟨W,X,Y,G5,rfl,e6,e7,k5⟩;have b6:=T.then k5;have o5:=b6.size;have A:∀{r:aj×Bool×Int},(match S.keyed c.key with
  |some l=>(l,false,0)
  |none=>if¬(c.expect= -1\/c.expect=((V.state c.aT c.agg).getD ⟨0,[]⟩).version)then(qu,false,11)else
   if uS (d.at c.aT) (match V.state c.aT c.agg with|some B=>B.cells|none=>cP (d.at c.aT)) c.field c.op c.arg≠0 then(qu,false,10)else
   ((aQ c origin S.vec (max S.top start)).2,decide ((aQ c origin S.vec (max S.top start)).1=0),(aQ c origin S.vec (max S.top start)).1))=r->lX d S V origin start c=r:=λ{r} hr=>by
  rw[lY,Zq (by simpa using e5)];exact hr
 refine bE (qt _ W X Y) ⟨_,rfl,PA.mk λw6 k6 s6 g6=>az (aV _ W X Y) g6 rfl λm k7 s7 g7=>an.mk (λhk=>?_) (λhk=>?_)⟩
 ·obtain⟨l,R⟩:=Option.isSome_iff_exists.1 hk
  rw[R]at e6 g7 A;have b2:ai t m:=k6.new k7 λP a=>.inr oM;refine ar (aV _ W X Y) g7 (az (aV _ W X Y) (b2.get (b6.get g3 id) id) rfl λw8 k8 s8 g8=>ar (aV _ W X Y) g8 (Ok.mk ⟨W,X,Y,G5,?_,?_,λP a=>?_,?_⟩))
  ·rw[A rfl];rfl
  ·rw[A rfl]
   exact(e6.ah b2).af k8 λP a l=>by have:=e7 P a;have:=q.size;have:=T.size;omega
  ·have:=e7 P a;have:=q.size;have:=T.size;omega
  ·exact((q.then b6).then b2).new k8 λP a=>.inr oM
 have d2:S.keyed c.key=none:=by simpa using hk
 rw[d2]at A;have b2:ai t m:=k6.new k7 λP a=>.inr oM;have L:=b6.then b2;have o6:=L.size;have b7:=q.then L;have e8:iE d c.aT c.field c.op c.arg=0:=by
  have:=e5;unfold ez at this;split at this
  ·simp at this
  ·exact this
 have j3:V.decl.at c.aT=d.at c.aT:=by rw[j2]
 obtain⟨hV,b0,hq⟩:=hv;have a6:(match V.state c.aT c.agg with|some B=>B.cells|none=>cP (d.at c.aT)).length=(d.at c.aT).length:=by
  unfold aU.state
  cases hs:aD V.dQ (c.aT,c.agg)with
  |none=>simp[cP]
  |some s=>rw[<-j3];exact hV.st _ (bQ hs)
 obtain⟨c4,t0,t1,o7⟩:=Em j0 e8 a6;obtain⟨C,e9⟩:∃C:Nat,c.aT=C:=⟨c.aT.toNat,oM⟩
 have j4:d.at c.aT=d.types.getD C []:=by
  unfold aM.at;rw[Zx (bh.2 ⟨t0,oM⟩),e9,Qx]
 obtain⟨tb,og,es,j5,o8,o2,j6,fa,fn,fc,rfl,b3⟩:=(hd.ah b7).aT.el C d.types[C] sM;have b3:Row nJ 48 m D fa fn (d.at c.aT):=by
  rw[j4];have:d.types.getD C []=d.types[C]:=by simp[QQ,show C<d.types.length by omega]
  rw[this];exact b3
 have o9:=(hd.ah b7).aT.len;have c7:=j6 0 dC;have f2:jC.k=1:=rfl;rw[f2,Nat.mul_one]at c7;have j7:=L.get gd id;have f3:=L.get gc id;refine⟨_,_,_,ae j7 rfl,_,ae f3 rfl,tb,og,j5,t0,oM,fa,fn,fc,by rw[e9,Qx];exact c7,PA.mk λw8 k8 s8 g8=>PS.mk g8 sM λw9 k9 s9 g9=>?_⟩;have Z:ai m w9:=k8.new k9 λP a=>.inr oM;have d3:=Z.get f3 id;have d4:b_ w v Fv V:=⟨hV,b0,hq⟩
 refine⟨_,ae d3 rfl,_,ae d3 rfl,PC.ok (mr (d4.ah (b7.then Z))) ?_⟩;rintro _ d5 ⟨ca,cn,cc,j8,rfl,f4,o3,M⟩;have b4:=Z.then M;have f5:=b7.then b4;have p0:=b4.size;obtain⟨E,hX⟩:∃E,E=(match V.state c.aT c.agg with|some B=>B.cells|none=>cP (d.at c.aT)):=⟨_,rfl⟩
 rw[<-hX]at c4 a6 A;refine⟨_,_,_,_,_,rfl,PA.mk λp1 j9 p2 k0=>PS.mk k0 sM λp3 l0 p4 l3=>PS.mk l3 sM λf7 l4 p5 g0=>?_⟩;have a5:ai d5 f7:=(j9.new l0 λP a=>.inr oM).new l4 λP a=>.inr oM;have l5:f7.heap[m.heap.size]? =some (.cells #[.slice fa fn fc] 130 (0,0)):=a5.get (M.get g9 id) id;have c8:=f4.ah a5;refine⟨λw'=>ai d5 w'/\∃ca cn cc G,w'.heap[d5.heap.size]? =some (.cells #[XH ((V.state c.aT c.agg).getD EZ).version,.slice ca cn cc] 42 (0,0))/\Row eO 32 w' G ca cn E,?_,?_⟩
 ·refine an.not (an.mk (λl6=>⟨a5,ca,cn,cc,j8,g0,?_⟩) (λl7=>⟨_,_,_,ae l5 rfl,PC.ok (FP (t:=d.at c.aT) rfl b3.len (by rw[b3.len];omega)) ?_⟩))
  ·obtain⟨B,hx⟩:=Option.isSome_iff_exists.1 l6
   rw[hx]at c8 hX;have b8:E=B.cells:=hX;rw[b8];exact c8.row dC (by show B.cells.length*32<=aI;rw[<-b8,a6];unfold aI;omega)
  ·rintro _ p6 ⟨b1,n6,c6,G6,rfl,l8,d6,l9⟩
   have p7:=d6.size;refine⟨_,_,_,rfl,PS.mk (d6.get g0 id) sM λp8 g4 p9 m0=>⟨(a5.then d6).new g4 λP a=>.inr oM,b1,n6,c6,G6,m0,?_⟩⟩;have hn:V.state c.aT c.agg=none:=by simpa using l7
   rw[hn]at hX;have b8:E=cP (d.at c.aT):=hX;rw[b8];exact(l8.af g4 λP a l=>by have:=l9 P a;omega).row dC (by unfold aI cP;simp;omega)
 rintro _ m1 ⟨m2,q0,q1,q2,G2,h3,h5⟩;refine PA.mk λh8 d7 q3 m3=>?_;have F:=m2.then d7;have m4:=F.size;have c9:=f5.then F;have h9:=d7.get h3 id;have i0:=F.get (M.get d3 id) id;have i1:=F.get (M.get g9 id) id;have i2:=(((L.then Z).then M).then F).get g3 id;have n:∀{z:World} {no:Int},ai h8 z->lX d S V origin start c=(qu,false,no)->w_ XP 55 (XL w2.heap.size) (jf qu none 0 0) z λt=>nK XP 55 (XL w2.heap.size) t λr=>Ok (ur w (lX d S V origin start c)) (.returned (.tuple #[r,.bool false,XH no])) t:=λ{z no} h4 R=>y (((L.then Z).then M).then (F.then h4)) R;refine⟨λa9 c5 w'=>∃H:Nat,c5=H/\H<=2/\a9=2-H/\ai h8 w'/\(1<=H->c.expect= -1\/c.expect=((V.state c.aT c.agg).getD ⟨0,[]⟩).version)/\(2<=H->uS (d.at c.aT) E c.field c.op c.arg=0),⟨_,0,rfl,oM,rfl,ak.refl _,λh=>oM,λh=>oM⟩,?_⟩;rintro a9 _ _ I ⟨H,rfl,hj,rfl,j,d8,m5⟩;have d0:=j.get h9 id;have a0:=j.get i0 id;have i3:=j.get i1 id;have d1:=j.get m3 id;refine an.dec (λq4=>⟨m1.heap.size,0,rfl,oM,oM,?_⟩) (λq5=>?_)
 ·have m6:H=0\/H=1:=oM
  rcases m6 with rfl|rfl
  ·refine⟨_,ae d1 rfl,_,_,_,rfl,kR,PC.ok (φ:=λv w'=>v= XH (if c.expect= -1\/c.expect=((V.state c.aT c.agg).getD ⟨0,[]⟩).version then 0 else 11)/\I=w') (te ⟨_,ae a0 rfl,an.dJ (λh1=>Ok.mk ⟨by rw[Zx (.inl h1)],rfl⟩) (λh1=>⟨_,ae a0 rfl,_,ae d0 rfl,an.dJ (λh2=>Ok.mk ⟨by rw[Zx (.inr h2)],rfl⟩) (λh2=>Ok.mk ⟨by rw[Zq (by rintro(h|h);exact h1 h;exact h2 h)],rfl⟩)⟩)⟩) ?_⟩
   rintro _ _ ⟨rfl,rfl⟩
   by_cases hx:c.expect= -1\/c.expect=((V.state c.aT c.agg).getD ⟨0,[]⟩).version
   ·rw[Zx hx]
    exact⟨_,rfl,an.ff rfl ⟨_,oM,1,rfl,oM,rfl,j,λ_=>hx,λh=>oM⟩⟩
   ·rw[Zq hx]
    exact⟨_,rfl,an.tt rfl (n j (A (by rw[Zx hx])))⟩
  ·refine⟨_,ae d1 rfl,_,_,_,rfl,kR,PC.ok (φ:=λv w'=>v= XH (uS (d.at c.aT) E c.field c.op c.arg)/\ai I w') (tf ⟨_,_,_,ae i3 rfl,_,_,_,ae d0 rfl,_,ae a0 rfl,_,ae a0 rfl,_,ae a0 rfl,PC.ok (FO c4 ((b3.ah (b4.then F)).ah j) ((h5.ah d7).ah j)) ?_⟩) ?_⟩
   ·rintro _ m7 ⟨rfl,b9⟩
    exact⟨_,rfl,Ok.mk ⟨rfl,b9⟩⟩
   ·rintro _ m7 ⟨rfl,b9⟩
    refine⟨_,rfl,an.df (λU=>n (j.then b9) (A ?_)) (λh0=>⟨_,oM,2,rfl,oM,rfl,j.then b9,λ_=>d8 oM,λ_=>h0⟩)⟩;have m8:uS (d.at c.aT) E c.field c.op c.arg=10:=by
     rw[DA]at U⊢;split at U
     ·simp at U
     ·rename_i hq;rw[Zq hq]
    rw[Zq (λh=>h (d8 oM)),Zx U,m8]
 have i4:=A (r:=((aQ c origin S.vec (max S.top start)).2,decide ((aQ c origin S.vec (max S.top start)).1=0),(aQ c origin S.vec (max S.top start)).1)) (by rw[Zq (λh=>h (d8 oM)),Zq (by rw[m5 oM];simp)]);have J:(if start>S.top then start else S.top)=max S.top start:=by split<;>omega
 have c0:(if start>S.top then start else S.top)<=9223372036854775807:=by split<;>omega
 refine⟨λeb eo no w'=>eo=0/\no=(aQ c origin S.vec (max S.top start)).1/\ai I w'/\∃a2 a3 a7 G,w'.heap[eb]? =some (.cells (aB (aQ c origin S.vec (max S.top start)).2 a2 a3 a7).toArray 55 (0,0))/\Row aG 8 w' G a2 a3 (aQ c origin S.vec (max S.top start)).2.aN/\∀P,G P->I.heap.size<=P/\P<w'.heap.size,?_,?_⟩
 rotate_left
 ·rintro eb _ no _ q6 ⟨rfl,rfl,d9,b,e,f,p,ge,u,g⟩
  have i5:=d9.get (j.get i2 id) id;have zk:=j.size;have q7:=d9.size;have zw:=q.size;refine ar (aV _ b e f) ge (az (aV _ b e f) i5 rfl λq8 i6 q9 m9=>ar (aV _ b e f) m9 (Ok.mk ⟨b,e,f,p,?_,?_,λP a=>?_,?_⟩))
  ·rw[i4];rfl
  ·rw[i4];exact u.af i6 λP a l=>by have:=g P a;omega
  ·have:=g P a;omega
  ·exact(((c9.then j).then d9)).new i6 λP a=>.inr oM
 ·intro N i7
  have e0:ai I N:=i7.af;have r0:N.heap.size=I.heap.size:=by rw[i7.heap]
  have i8:=e0.get a0 id;have a4:=hs.ah ((c9.then j).then e0);have zk:=j.size;have hn:=hs.1.n;have c1:S.vec.length<=20000000:=by rw[S.bq];omega
  have c2:S.vec.length*8<=aI:=by unfold aI;omega
  have x:∀{wE w6 m:World} {a1:Nat} {b:ZH} {e f:Nat} {p:XN},ai N wE->Row aG 8 wE p b e (aQ c origin S.vec (max S.top start)).2.aN->(∀P,p P->N.heap.size<=P/\P<wE.heap.size/\P≠a1)->ai wE w6->N.heap.size<=a1->ak (λP=>P=a1) w6 m->m.heap.size=w6.heap.size->m.heap[a1]? =some (.cells (aB (aQ c origin S.vec (max S.top start)).2 b e f).toArray 55 (0,0))->
    (λ(eb eo:Nat) (no:Int) (w':World)=>eo=0/\no=(aQ c origin S.vec (max S.top start)).1/\ai I w'/\∃a2 a3 a7 G,w'.heap[eb]? =some (.cells (aB (aQ c origin S.vec (max S.top start)).2 a2 a3 a7).toArray 55 (0,0))/\Row aG 8 w' G a2 a3 (aQ c origin S.vec (max S.top start)).2.aN/\∀P,G P->I.heap.size<=P/\P<w'.heap.size) a1 0 (aQ c origin S.vec (max S.top start)).1 m:=λ{wE w6 m a1 b e f p} hE hr hG h6 hg h7 r3 n0=>by
   have z6:=h6.size;exact⟨rfl,rfl,((e0.then hE).then h6).new h7 λP a=>.inr oM,b,e,f,p,n0,(hr.ah h6).af h7 λP a l=>(hG P a).2.2 l,λP a=>by have:=hG P a;omega⟩
  have zc:¬(N.heap.size<=w1.heap.size):=by
   have h1:=((((k3.then L).then Z).then M).then F).size;omega
  refine⟨λP=>N.heap.size<=P,zc,ar (vX c) i8 ⟨PC.ok (kp a4) ?_,PA.mk λr4 c3 r5 n1=>⟨ai.af c3,PC.ok (kp (a4.ah c3)) ?_⟩⟩⟩
  ·rintro _ n2 ⟨av,nv,cv,a8,rfl,b5,k,n3⟩
   have n4:=k.size;refine⟨_,_,_,rfl,ai.af k,PC.ok (EV (a4.ah k)) ?_,PA.mk λn8 K n9 e1=>⟨ai.af K,PC.ok (EV ((a4.ah k).ah K)) ?_⟩⟩
   ·rintro _ _ ⟨rfl,rfl⟩
    refine⟨_,rfl,ak.refl _,?_,?_⟩
    ·rw[J]
     refine PC.ok (iq (b5.row dC c2) (by rw[<-J];exact c0) c1) ?_;rintro _ e2 ⟨b,e,f,p,rfl,u,g,i⟩;have e3:=i.size;exact bE (qt _ b e f) ⟨_,rfl,ai.af i,PA.mk λr6 i9 r7 o0=>⟨ai.af i9,az (aV _ b e f) o0 rfl λe4 o O Q=>⟨o.mono λP _ l=>oM,x (k.then i) u (λP a=>⟨by have:=g P a;omega,(g P a).2,by have:=g P a;omega⟩) i9 oM o O Q⟩⟩⟩
    ·refine PA.mk λn8 K n9 e1=>⟨ai.af K,?_⟩
     rw[J];refine PC.ok (iq ((b5.ah K).row dC c2) (by rw[<-J];exact c0) c1) ?_;rintro _ e2 ⟨b,e,f,p,rfl,u,g,i⟩;have e3:=i.size;exact bE (qt _ b e f) ⟨_,rfl,ai.af i,az (aV _ b e f) (i.get e1 id) rfl λe4 o O Q=>⟨o.mono λP _ l=>oM,x ((k.then K).then i) u (λP a=>⟨by have:=g P a;omega,(g P a).2,by have:=g P a;omega⟩) (ak.refl _) oM o O Q⟩⟩
   ·rintro _ _ ⟨rfl,rfl⟩
    refine⟨_,rfl,ak.refl _,?_⟩;refine PC.ok (by rw[J];exact iq ((b5.ah K).row dC c2) (by rw[<-J];exact c0) c1) ?_;rintro _ e2 ⟨b,e,f,p,rfl,u,g,i⟩;have e3:=i.size;exact bE (qt _ b e f) ⟨_,rfl,ai.af i,az (aV _ b e f) (i.get e1 id) rfl λe4 o O Q=>⟨o.mono λP _ l=>oM,x ((k.then K).then i) u (λP a=>⟨by have:=g P a;omega,(g P a).2,by have:=g P a;omega⟩) (ak.refl _) oM o O Q⟩⟩
  ·rintro _ n2 ⟨av,nv,cv,a8,rfl,b5,k,n3⟩
   have n4:=k.size;refine⟨_,_,_,rfl,ai.af k,PC.ok (EV ((a4.ah c3).ah k)) ?_⟩;rintro _ _ ⟨rfl,rfl⟩;refine⟨_,rfl,ak.refl _,?_⟩;refine PC.ok (by rw[J];exact iq (b5.row dC c2) (by rw[<-J];exact c0) c1) ?_;rintro _ e2 ⟨b,e,f,p,rfl,u,g,i⟩;have e3:=i.size;exact bE (qt _ b e f) ⟨_,rfl,ai.af i,az (aV _ b e f) ((k.then i).get n1 id) rfl λe4 o O Q=>⟨o.mono λP _ l=>oM,x ((c3.then k).then i) u (λP a=>⟨by have:=g P a;omega,(g P a).2,by have:=g P a;omega⟩) (ak.refl _) oM o O Q⟩⟩
end
structure iL where
 ta:ZH
 tn:Nat
 tc:Nat
 pa:ZH
 pn:Nat
 pc:Nat
 dp:Nat
 lp:ZH
 sp:Nat
 bp:Nat
 wp:Nat
 tp:Nat
abbrev iL.cells(P:iL)(a:cy)(b:Int):Array Value:= #[XH a.bR,XH a.tR,XH a.bN,XH a.chunk,XH a.buffer,XH a.cQ,XH a.every,XH a.start,.slice P.ta P.tn P.tc,.slice P.pa P.pn P.pc,XH b,
 XL P.dp,.pointer P.lp,XL P.sp,XL P.bp,XL P.wp,XL P.tp]
def DL(c:World)(G:XN)(d:Nat)(e:ZH)(D:al)(a:Option ef):Prop:=
 ∃b,aP c d b D/\(∀P,b P->G P)/\match a with
  |none=>e=none
  |some f=>f.bG≠[]/\∃g h,e=some ⟨g,0,none⟩/\gW c d g h f/\∀P,h P->G P/\¬b P
def LQ(c:World)(G:XN)(d:Nat)(P:Nat)(e:List aj):Prop:=∃b D,fK c d b D P e/\(∀a,b a->G a)/\∀a,D a->G a
def kj(d:Nat)(e:Array Value)(a:iL)(c:cy)(b:bD)(f:List aj):Nat->World->(XN)->Prop
 |0=>λP G=>G d/\P.heap[d]? =some (.cells e 99 (0,0))
 |1=>λP G=>aW P G c.decl a.ta a.tn a.pa a.pn
 |2=>λP G=>DL P G a.dp a.lp b.D b.log
 |3=>λP G=>cj P a.sp G b.S/\b.S.Cl/\b.S.n=c.bR.toNat
 |4=>λP G=>cJ P a.bp G c.decl c.every.toNat f
 |5=>λP G=>LQ P G a.wp c.buffer.toNat b.waits
 |6=>λP G=>dA P a.tp G b.fr
 |_=>λ_ _=>True
section
variable {w w' w0:World} {p:Nat} {F G T:XN} {cls:Nat->Nat} {h:iL} {c:cy} {self:Int} {X:bD} {dp:Nat} {lp:ZH} {D:al} {log:Option ef}
def DL.af(h:DL w G dp lp D log)(b:ak T w w')(c:∀P,G P->¬T P):DL w' G dp lp D log:=by
 obtain⟨g,i,d,e⟩:=h;refine⟨g,i.af b λP a=>c P (d P a),d,?_⟩
 cases log with
 |none=>exact e
 |some o=>
  obtain⟨j,k,l,m,n,f⟩:=e;exact⟨j,k,l,m,n.af b λP a=>c P (f P a).1,f⟩
def bA{i:Array Value}{j:List aj}:sL (kj p i h c X j):=by
 intro k w w' G T P b a
 match k,P with
 |0,P=>exact⟨P.1,b.get P.2 (a p P.1)⟩
 |1,P=>exact aW.af P b a
 |2,P=>exact DL.af P b a
 |3,P=>exact⟨cj.af P.1 b a,P.2⟩
 |4,P=>exact cJ.af P b a
 |5,P=>obtain⟨l,D,m,f,g⟩:=P;exact⟨l,D,m.af b (λd e=>a d (f d e)) λd e=>a d (g d e),f,g⟩
 |6,P=>exact dA.af P b a
 |k+7,P=>trivial
structure ky (c:cy) (me:Int):Prop where
 right:je c me=true
 decl:cO c.decl=0
 VA:aK c.bN
 every:aK c.every
 start:aK c.start
structure Env (w0 w:World) (F:XN):Prop where
 mI:et w0
 laid:Laid w0
 gr:ai w0 w
 aC:∀b,F b->w0.heap.size<=b
def Env.AY(h:Env w0 w F)(b:cz F w f w'):Env w0 w' f:=⟨h.mI,h.laid,h.gr.new b.af λP a=>.inr (h.aC P a),λP a=>(b.new P a).elim (h.aC P) λc=>by have:=h.gr.size;omega⟩
def Env.ah(h:Env w0 w F)(P:ai w w'):Env w0 w' F:=⟨h.mI,h.laid,h.gr.then P,h.aC⟩
abbrev cu(w:World)(F:XN)(cls:Nat->Nat)(p:Nat)(h:iL)(c:cy)(self:Int)(X:bD):Prop:=br w F cls (kj p (h.cells c self) h c X X.S.l)
def bu(w:World)(p:Nat)(F:XN)(c:cy)(self:Int)(X:bD):Prop:=ky c self/\∃h cls,cu w F cls p h c self X
def cu.ah(P:cu w F cls p h c self X)(a:ai w w'):cu w' F cls p h c self X:=br.ah P bA a
def cu.bf(P:cu w F cls p h c self X):w.heap[p]? =some (.cells (h.cells c self) 99 (0,0)):=(P.at' 0).2
def cu.Hb(P:cu w F cls p h c self X):F p/\cls p=0:=(P.at' 0).1
def bu.af(a:bu w p F c self X)(b:ak T w w')(d:∀P,F P->¬T P):bu w' p F c self X:=by
 obtain⟨e,h,cls,f⟩:=a;exact⟨e,h,cls,br.af f bA b d⟩
def bu.ah(P:bu w p F c self X)(a:ai w w'):bu w' p F c self X:=P.af a λ_ _ h=>h
def bu.aC(a:bu w p F c self X):∀P,F P->P<w.heap.size:=by obtain⟨d,h,cls,b⟩:=a;exact b.aC
def cu.store{g b:Array Value}{d:iL}{e:List aj}(P:br w F cls (kj p g d c X e))(h:ak (·=p) w w')(i:w'.heap[p]? =some (.cells b 99 (0,0))):br w' F cls (kj p b d c X e):=by
 refine br.same P bA (k:=0) (h.mono λj _ a=>by have a:j=p:=a;exact a▸(P.at' 0).1) ⟨(P.at' 0).1,i⟩ λf G k l=>?_;rcases f with _|_|_|_|_|_|_|f<;>first|exact l|exact Zz rfl k
def DL.Mk(h:DL w G dp lp D (some a9))(d:Env w0 w G)(m:∀P,G P->P<w.heap.size):∃c,lp=XM c/\a9.bG≠[]/\bY w0 w dp c a9 D (λP=>P<w.heap.size/\¬G P):=by
 obtain⟨i,j,f,k,c,l,rfl,g,e⟩:=h;refine⟨c,rfl,k,l,⟨i,j,d.gr,λP a=>⟨d.aC P (f P a),λb=>?_⟩,λP a=>?_⟩,g,λP a=>⟨d.aC P (e P a).1,λb=>b.2 (e P a).1⟩⟩
 ·rcases b with b|b
  ·exact b.2 (f P a)
  ·exact(e P b).2 a
 ·rcases a with a|a
  ·exact a.1
  ·exact g.aC P a
def DL.tR(d:DL w G dp lp D log)(b:Env w0 w G):aS w0 w dp D (λP=>P<w.heap.size/\¬G P):=by
 obtain⟨e,f,c,-⟩:=d;exact⟨e,f,b.gr,λP a=>⟨b.aC P (c P a),λg=>g.2 (c P a)⟩,λP a=>a.1⟩
def DL.EF{Y:XN}(m:bY w0 w' dp a a9 D (λP=>(P<w.heap.size/\¬G P)\/Y P))(n:ak (du λP=>P<w.heap.size/\¬G P) w w')(o:a9.bG≠[]):∃d,DL w' d dp (XM a) D (some a9)/\cz G w d w'/\(∀P,d P->P<w'.heap.size)/\∀P,d P->¬Y P:=by
 obtain⟨g,⟨h,i,r,e,s⟩,j,k⟩:=m;have f:∀P,¬(P<w.heap.size/\¬G P)->G P\/w.heap.size<=P:=λP b=>by
  rcases Nat.lt_or_ge P w.heap.size with c|c
  ·exact .inl (Classical.byContradiction λp=>b ⟨c,p⟩)
  ·exact .inr c
 refine⟨λP=>h P\/g P,⟨h,i,λP b=>.inl b,o,a,g,rfl,j,λP b=>⟨.inr b,λq=>(e P q).2 (.inr b)⟩⟩,⟨n.mono λP t b=>(f P b).resolve_right oM,λP b=>?_⟩,λP b=>?_,λP b l=>?_⟩
 ·rcases b with b|b
  ·exact f P λc=>(e P b).2 (.inl (.inl c))
  ·exact f P λc=>(k P b).2 (.inl c)
 ·exact b.elim (i.aC P) (j.aC P)
 ·rcases b with b|b
  ·exact(e P b).2 (.inl (.inr l))
  ·exact(k P b).2 (.inr l)
def DL.KI{Y:XN}(h:aS w0 w' dp D (λP=>(P<w.heap.size/\¬G P)\/Y P))(i:ak (du λP=>P<w.heap.size/\¬G P) w w'):∃c,DL w' c dp none D none/\cz G w c w'/\(∀P,c P->P<w'.heap.size)/\∀P,c P->¬Y P:=by
 obtain⟨d,e,l,f,m⟩:=h;have g:∀P,¬(P<w.heap.size/\¬G P)->G P\/w.heap.size<=P:=λP a=>by
  rcases Nat.lt_or_ge P w.heap.size with b|b
  ·exact .inl (Classical.byContradiction λj=>a ⟨b,j⟩)
  ·exact .inr b
 exact⟨d,⟨d,e,λP a=>a,rfl⟩,⟨i.mono λP n a=>(g P a).resolve_right oM,λP a=>g P λb=>(f P a).2 (.inl b)⟩,λP a=>e.aC P a,λP a k=>(f P a).2 (.inr k)⟩
end
def Hj{D:al}(a:a9.bG≠[]):(aY a9 D).2.1.bG≠[]:=by
 have c:∀P:al,(pK a9 P).2.1.bG≠[]:=by
  intro P;unfold pK;dsimp only;split
  ·exact a
  ·split
   ·exact a
   ·simp
 have b:∀P:al,(lx a9 P).2.1.bG≠[]:=by
  intro P;unfold lx;dsimp only;split
  ·exact a
  ·exact c _
 unfold aY;dsimp only;split
 ·exact b D
 ·split
  ·exact a
  ·exact b _
def EJ{D:al}{l:List aj}(P:a9.bG≠[]):(bk a9 D l).2.1.bG≠[]:=by
 unfold bk;dsimp only;have a:(if a9.size<=a9.bytes then aY a9 D else(0,a9,D)).2.1.bG≠[]:=by
  split
  ·exact Hj P
  ·exact P
 generalize(if a9.size<=a9.bytes then aY a9 D else(0,a9,D))=b at a⊢;split
 ·exact P
 split
 ·exact P
 split
 ·exact a
 split
 ·exact a
 ·exact a
def Oy(e:Row fY 96 b f d a F):∀P∈F,P.Ok:=λP g=>by
 obtain⟨c,h,rfl⟩:=List.getElem_of_mem g;obtain⟨j,k,l,-,-,-,-,m,n,o,-,-,i⟩:=e.el c F[c] (Qq h);exact i
def au.Hk:∀{l:List aj} {S:au} {P:aj},P∈S.l->P∈(S.e_ l).l
 |[],S,P,a=>a
 |e::l,S,P,a=>au.Hk (l:=l) (S:=(S.add e).2) (by
  rcases S.ic e with⟨-,b⟩|⟨c,-⟩
  ·rw[b];exact a
  ·rw[c];exact(cW e S.l).mem_iff.2 (QJ _ a))
variable{e4:cy}
def zS(a:B.Cl)(b:B.n=e4.bR.toNat)(P:List aj):dZ e4 B P=B.e_ P:=by
 unfold dZ;rw[au.Nj,<-b,a.SP]
section
variable {w w' w0:World} {p:Nat} {F E T:XN} {cls:Nat->Nat} {h:iL} {c:cy} {self:Int} {X:bD} {evs:List aj} {ea:ZH} {en ec:Nat}
def ky.bR(P:ky c self):c.bR=(c.bR.toNat:Int)/\c.bR.toNat<=64/\1<=c.bR.toNat:=by
 have:=P.right;unfold je within at this;simp only[QK,Zk]at this;omega
def Hl(s:cu w F cls p h c self X)(b0:ky c self)(hr:Row fY 96 w E ea en evs)(t:∀P,E P->P<w.heap.size)(hl:X.S.l.length+evs.length<=20000000):
  ZG 93 #[XL p,.slice ea en ec] w (Ok λa0 w'=>∃L d,a0= XL L/\cj w' L d (dZ c X.S evs)/\(∀P,d P->w.heap.size<=P)/\ai w w'):=by
 obtain⟨b1,b2,c5⟩:=b0.bR;have eQ:=(s.at' 3).1;refine mO ⟨p,0,rfl,_,ae s.bf rfl,?_⟩;rw[b1];refine PC.ok (Dw b2) ?_;rintro _ w7 ⟨u,k,rfl,M,v,l⟩;have g:=cu.ah s l;refine⟨_,rfl,p,0,rfl,_,ae g.bf rfl,PC.ok (p_ (eQ.ah l) oM) ?_⟩;rintro _ c6 ⟨a2,x,c1,G,rfl,i,y,m⟩;have N:=M.aC;have c7:=i.aC;have z7:=l.size;have c8:=y.size;have O:=l.then y;refine⟨_,_,_,rfl,yb i Fg (hr.ah O) (λP a=>⟨by have:=t P a;omega,λz=>by have:=t P a;have:=m P (i.self P z);omega⟩) ba (by unfold maxLen;omega) λa' c' n Q A B b3 _=>⟨_,_,_,rfl,?_⟩⟩;have b4:=A.len dC;have c9:=B.size;rw[QX]at b4;have a3:Row fY 96 n Q a' (x+en) (X.S.l++evs):=A.row dC (by rw[QX];unfold aI;omega);have R:=A.aC;have S:∀P,Q P->¬k P:=λP a o=>by
  have e:=v P o;have h6:=N P o;rcases b3 P a with g|g|g
  ·have:=m P g;omega
  ·have:=t P g;omega
  ·omega
 have a4:ai w n:=O.new B λP a=>.inr (by have:=m P (i.self P a);omega);have a5:=(M.ah y).af B λP a z=>by have:=N P a;have:=m P (i.self P z);omega
 refine⟨λT C w'=>∃(b:Nat) (d:XN),C=b/\b<=x+en/\T=x+en-b/\cj w' u d ((⟨c.bR.toNat,[]⟩:au).e_ ((X.S.l++evs).take b))/\(∀P,d P->k P\/n.heap.size<=P)/\ak k n w',⟨_,0,k,rfl,Qj _,rfl,a5,λP a=>.inl a,ak.refl _⟩,?_⟩;rintro T _ _ U ⟨b,d,rfl,hj,rfl,H,q,r⟩;have d0:=r.size;refine an.dec (λd1=>?_) (λd2=>?_)
 ·obtain⟨f,V⟩:∃f,(X.S.l++evs)[b]? =some f:=⟨_,Qq (by rw[QX];omega)⟩
  obtain⟨P,a1,es,ha,d3,d4,b5,I,J,K,rfl,b6,a7⟩:=(a3.af r S).el b f V;refine⟨P,a1,ha,oM,oM,bl (es:=aB f I J K) (k:=10) (aV _ _ _ _) rfl (λC ht=>by rw[Qx];exact b5 C ht) (PA.mk λd5 b7 d6 b8=>az (aV f I J K) b8 rfl λb9 c0 d7 c2=>ar (aV f I J K) c2 ?_)⟩;have j:ai U b9:=b7.new c0 λP a=>.inr (by have a:P=U.heap.size:=a;omega);have W:=au.lF ((X.S.l++evs).take b) ⟨c.bR.toNat,[]⟩;rw[Qy,QX]at W;simp only[ZQ]at W;refine PC.ok (sR (H.ah j) (b6.ah j) (λP a=>⟨by have:=R P a;have:=j.size;omega,λo=>?_⟩) a7 oM) ?_
  ·rcases q P o with e|e
   ·exact S P a e
   ·have:=R P a;omega
  rintro _ c3 ⟨rfl,Y,c4,Z⟩;refine⟨_,rfl,_,oM,b+1,Y,aq oM,oM,rfl,?_,λP a=>?_,(r.ah j).new Z.af λP a=>q P a⟩
  ·rw[Qw,V]
   show cj c3 u Y (au.e_ _ ((X.S.l++evs).take b++[f]));rw[au.qb];exact c4
  ·rcases Z.new P a with e|e
   ·exact q P e
   ·have:=j.size;exact .inr oM
 ·rw[Qz (by rw[QX];omega)]at H
  exact Ok.mk ⟨u,d,rfl,H,λP a=>(q P a).elim (v P) λe=>oM,a4.new r λP a=>.inr (v P a)⟩
end
section
variable {w w' w0:World} {p:Nat} {F E T:XN} {cls:Nat->Nat} {h:iL} {c:cy} {self:Int} {X:bD} {evs lB:List aj} {ea:ZH} {en ec:Nat}
def Env.sub(a:Env w0 w F)(b:∀P,f P->F P):Env w0 w f:=⟨a.mI,a.laid,a.gr,λP c=>a.aC P (b P c)⟩
def Oz(P:B.OK)(b:l∈B.l)(c:M∈B.l)(d:aR l=aR M):l=M:=by
 have a:=P.get b;have e:=P.get c;rw[d,e]at a;exact(XJ a).symm
def AE(v:br w F cls (kj p (h.cells c self) h c X lB))(l:Env w0 w F)(R:∀(x:Nat) (m n:aj),lB[x]? =some m->X.S.l[x]? =some n->aR m=aR n->m=n)(y:X.S.l.length<=20000000){κ:XR}(o:∀w' g a,cu w' g a p h c self X->cz F w g w'->κ (XH 0) w'):
  ∀ny,bC w ny->∃q:XN,(∃r z,(XM p:ZH)=some ⟨r,z,none⟩/\(¬q r/\(∃(A:ZH),ny.cell? ⟨r,z+14,none⟩=some (.pointer A)/\(∃B C,(XM p:ZH)=some ⟨B,C,none⟩/\(∃(E:ZH),ny.cell? ⟨B,C+13,none⟩=some (.pointer E)/\
   PC XP 41 #[.pointer E] ny (λS d=>∃(H:ZH) (I:Nat) (J:Nat),S= .slice H I J/\(ak q ny d/\PC XP 76 #[.pointer A,.slice H I J] d (λT i=>∃(U:Int),T= XH U/\(ak q d i/\κ (XH 0) i)) a4)) g4))))):=by
 intro ny V;have s:ai w ny:=V.af;have j:=br.ah v bA s;have K:=(j.at' 0).2;refine⟨λP=>F P/\cls P=4,p,0,rfl,λW=>?_,_,ae K rfl,p,0,rfl,_,ae K rfl,PC.ok (p_ (show cj ny h.sp (λP=>F P/\cls P=3) X.S from(j.at' 3).1) y) ?_⟩
 ·have:=W.2
  have Y:=(show(F p/\cls p=0)/\_ from v.at' 0).1.2;rw[Y]at this;cases this
 rintro _ d ⟨a1,a2,cc,G,rfl,t,f,Z⟩;have b5:=f.size;have a6:=j.aC;have L:=br.ah j bA f;have a8:=t.jB;have a0:cJ d h.bp (λP=>F P/\cls P=4) c.decl c.every.toNat lB:=L.at' 4;refine⟨_,_,_,rfl,ai.af f,PC.ok (Fq a0 l.mI ((l.gr.then s).then f) (λP e=>l.aC P e.1) (t.row dC ba) a8 (λP e=>⟨t.aC P e,λhf=>by have:=a6 P hf.1;have:=Z P e;omega⟩) y R) ?_⟩;rintro _ i ⟨k,rfl,G4,M,N⟩;obtain⟨g,a,u,b,-,-⟩:=L.AY bA (k:=4) (G':=G4) (C2:=kj p (h.cells c self) h c X X.S.l) N M.aC M λO G hj hc=>by
  rcases O with _|_|_|_|_|_|_|O<;>first|exact hc|exact Zz rfl hj
 have Q:ai w d:=s.then f;exact⟨_,rfl,N.af,o i g a u ⟨(ai.af Q).then b.af,λP e=>(b.new P e).imp id λh1=>by have:=Q.size;omega⟩⟩
def Hc(x:cu w F cls p h c self X)(c1:ky c self)(y:Env w0 w F){V:ef}(b3:X.log=some V)(Y:Row fY 96 w E ea en evs)(Z:∀a,E a->a<w.heap.size/\¬(F a/\cls a=2))(hl:X.S.l.length+evs.length<=20000000):
  ZG 43 #[XL p,.slice ea en ec] w (Ok λz w'=>z= XH (cR c X evs).1/\∃A r e,cu w' r e p A c self (cR c X evs).2/\cz F w r w'/\A.wp=h.wp):=by
 obtain⟨d,D,c2,P,j⟩:=X;simp only at b3 hl;subst b3;obtain⟨hS,B,hn⟩:=(show cj w h.sp (λa=>F a/\cls a=3) d/\d.Cl/\d.n=c.bR.toNat from x.at' 3)
 have c3:=x.aC;obtain⟨e1,C,H,a0⟩:=DL.Mk (show DL w (λa=>F a/\cls a=2) h.dp h.lp D (some V)from x.at' 2) (y.sub λa b=>b.1) λa b=>c3 a b.1;have c4:=Oy Y;have a2:∀a,E a->a<w.heap.size:=λa b=>(Z a b).1;refine mL ⟨p,0,rfl,_,ae x.bf rfl,?_⟩;rw[C];refine PC.ok (Jk y.laid a0 H Y a2 oM) ?_;rintro _ w7 ⟨rfl,a1,k7⟩;have I:=EJ (D:=D) (l:=evs) H;have s:∀{a3},(if(bk V D evs).1≠0 then((bk V D evs).1,({S:=d,D:=(bk V D evs).2.2,log:=some (bk V D evs).2.1,waits:=P,fr:=j}:bD))else
   if((bk V D evs).2.2.sync (bk V D evs).2.1.last).1≠0 then(((bk V D evs).2.2.sync (bk V D evs).2.1.last).1,{S:=d,D:=((bk V D evs).2.2.sync (bk V D evs).2.1.last).2,log:=some (bk V D evs).2.1,waits:=P,fr:=j})else
   (0,{S:=dZ c d evs,D:=((bk V D evs).2.2.sync (bk V D evs).2.1.last).2,log:=some (bk V D evs).2.1,waits:=P,fr:=j}))=a3->cR c ⟨d,D,some V,P,j⟩ evs=a3:=λ{a3} hq=>hq
 generalize e2:bk V D evs=ap at a1 I s;obtain⟨e3,t,D7⟩:=ap;simp only at a1 I s;obtain⟨G7,J,a4,a5,-⟩:=DL.EF (Y:=λ_=>False) (a1.mono λa b=>b.elim id False.elim) k7 I;obtain⟨F7,l,K,f,-,-,c5⟩:=x.AY bA (k:=2) (G':=G7) (C2:=kj p (h.cells c self) h c ⟨d,D7,some t,P,j⟩ d.l) a4 a5 (by rw[<-C]at J;exact J) λm G L M=>by
  rcases m with _|_|_|_|_|_|_|m<;>first|exact M|exact Zz rfl L
 refine⟨_,rfl,an.df (λa6=>Ok.mk ?_) (λh0=>?_)⟩
 ·rw[s (Zx a6)]
  exact⟨rfl,h,F7,l,K,f,rfl⟩
 simp only at h0;have c6:=y.AY f;obtain⟨q2,n,-,u⟩:=DL.Mk (show DL w7 (λa=>F7 a/\l a=2) h.dp h.lp D7 (some t)from K.at' 2) (c6.sub λa b=>b.1) λa b=>K.aC a b.1;refine⟨p,0,rfl,_,ae (K.at' 0).2 rfl,?_⟩;rw[n];refine PC.ok (GQ y.laid u I) ?_;rintro _ b4 ⟨rfl,a7,c7⟩;generalize e4:D7.sync t.last=sy at a7 s;obtain⟨s1,S⟩:=sy;simp only at a7 s;obtain⟨a8,o,i,N,-⟩:=DL.EF (Y:=λ_=>False) (a7.mono λa b=>b.elim id False.elim) c7 I;obtain⟨O,v,g,k,-,a9,T⟩:=K.AY bA (k:=2) (G':=a8) (C2:=kj p (h.cells c self) h c ⟨d,S,some t,P,j⟩ d.l) i N (by rw[<-n]at o;exact o) λm G L M=>by
  rcases m with _|_|_|_|_|_|_|m<;>first|exact M|exact Zz rfl L
 have b0:=f.trans k;refine⟨_,rfl,an.df (λa6=>Ok.mk ?_) (λh1=>?_)⟩
 ·rw[s ((Zq (by simpa using h0)).trans (Zx a6))]
  exact⟨rfl,h,O,v,g,b0,rfl⟩
 simp only at h1;have c8:=s ((Zq (by simpa using h0)).trans (Zq (by simpa using h1)));rw[c8];have c9:Row fY 96 b4 E ea en evs:=by
  refine(Y.af a4.af λa b=>(Z a b).2).af i.af λa b hf=>?_;rcases a4.new a (c5▸hf)with h5|h5
  ·exact(Z a b).2 h5
  ·have:=a2 a b;omega
 refine PC.ok (Hl g c1 c9 (λa b=>by have:=a2 a b;have:=b0.af.size;omega) hl) ?_;rintro _ d0 ⟨U,F2,rfl,b5,d1,d2⟩;have d3:(dZ c d evs).n=c.bR.toNat:=au.Nk _ _;have b1:=zS B hn evs;have b6:(dZ c d evs).Cl:=by rw[b1];exact au.Cl.e_ B c4
 obtain⟨F3,Q,b7,q,d4,-⟩:=g.dX bA (k:=3) (w':=d0) (G':=F2) (C2:=kj p (h.cells c self) {h with sp:=U} c ⟨dZ c d evs,S,some t,P,j⟩ d.l) (ai.af d2) (λa b=>.inr (d1 a b)) b5.aC ⟨b5,b6,d3⟩ λm G L M=>by
  rcases m with _|_|_|_|_|_|_|m<;>first|exact M|exact Zz rfl L
 refine⟨_,rfl,p,0,rfl,PS.mk (b7.at' 0).2 sM λb8 b9 e5 d5=>?_⟩;have d6:br b8 F3 Q (kj p (({h with sp:=U}:iL).cells c self) {h with sp:=U} c ⟨dZ c d evs,S,some t,P,j⟩ d.l):=cu.store b7 b9 d5;have d7:cz O b4 F3 b8:=⟨q.af.then (b9.mono λa _ R=>by have R:a=p:=R;rw[R];exact(g.at' 0).1.1),q.new⟩
 have c0:=b0.trans d7;have d8:∀W∈d.l,W∈(dZ c d evs).l:=λW hx=>by rw[b1];exact au.Hk hx
 have d9:(dZ c d evs).l.length<=20000000:=by rw[b1];exact Xx (au.lF _ _) hl
 exact AE d6 (y.AY c0) (λe6 W e7 hx hy R=>Oz b6.ok (d8 W (QZ hx)) (QZ hy) R) d9 (κ:=λz w'=>Ok (λz w'=>z= XH 0/\∃A r e,cu w' r e p A c self ⟨dZ c d evs,S,some t,P,j⟩/\cz F w r w'/\A.wp=h.wp) (.returned z) w')
  λw' r e b2 e0=>Ok.mk ⟨rfl,{h with sp:=U},r,e,b2,c0.trans e0,rfl⟩
end
def AA{D:al}{size:Int}(P:(eg D size).no=0):(eg D size).V.bG≠[]:=by
 revert P
 unfold eg;generalize i_ (told D) [] (uk D size) D=c;unfold nh;split
 ·rename_i b;intro P;exact Zz P b
 split
 ·intro P;exact rl P
 rename_i a;split
 ·intro _;exact a
 ·intro _;exact a
abbrev vR(P:iL)(a:cy)(b:Int)(c d e:ZH):Array Value:= #[XH a.bR,XH a.tR,XH a.bN,XH a.chunk,XH a.buffer,XH a.cQ,XH a.every,XH a.start,.slice P.ta P.tn P.tc,.slice P.pa P.pn P.pc,XH b,
 XL P.dp,.pointer c,.pointer d,.pointer e,XL P.wp,XL P.tp]
def recC(d:Nat)(e:Array Value)(a:iL)(c:cy)(b:bD)(f:Bool):Nat->World->(XN)->Prop
 |0=>λP G=>G d/\P.heap[d]? =some (.cells e 99 (0,0))
 |1=>λP G=>aW P G c.decl a.ta a.tn a.pa a.pn
 |2=>λP G=>DL P G a.dp a.lp b.D b.log
 |3=>λP G=>f=true->cj P a.sp G b.S/\b.S.Cl/\b.S.n=c.bR.toNat
 |5=>λP G=>LQ P G a.wp c.buffer.toNat b.waits
 |6=>λP G=>dA P a.tp G b.fr
 |_=>λ_ _=>True
section
variable {w w' w0:World} {p:Nat} {F E T:XN} {cls:Nat->Nat} {h:iL} {c:cy} {self:Int} {X:bD} {evs lB:List aj} {ea:ZH} {en ec:Nat}
def fQ{j:Array Value}:sL (recC p j h c X L):=by
 intro k w w' G T P b a
 match k,P with
 |0,P=>exact⟨P.1,b.get P.2 (a p P.1)⟩
 |1,P=>exact aW.af P b a
 |2,P=>exact DL.af P b a
 |3,P=>exact λf=>⟨cj.af (P f).1 b a,(P f).2⟩
 |4,P=>trivial
 |5,P=>obtain⟨l,D,m,g,i⟩:=P;exact⟨l,D,m.af b (λd e=>a d (g d e)) λd e=>a d (i d e),g,i⟩
 |6,P=>exact dA.af P b a
 |k+7,P=>trivial
def wO{z1 z2 z3:ZH}(T:br w F cls (recC p (vR h c self z1 z2 z3) h c X false))(L:ky c self)(A:Env w0 w F):
  ZG 38 #[XL p] w (Ok λB w'=>B= XH (gI c X).1/\(gI c X).2.S.l.length<=16777216/\∃U q e,cu w' q e p U c self (gI c X).2/\cz F w q w'):=by
 obtain⟨f7,d1,j4⟩:=L.bR;have g0:=T.aC;have V:F p/\cls p=0:=(T.at' 0).1;have i9:1<=c.every:=by
  have:=L.right;unfold je at this;simp only[QK,Zk]at this;omega
 refine ke λw3 d3=>?_;have W:ai w w3:=d3.af;have M:=br.ah T fQ W;have N:=(M.at' 0).2;refine⟨λ_=>False,p,0,rfl,_,ae N rfl,p,0,rfl,id,_,_,_,_,_,_,ae N rfl,ae N rfl,p,0,rfl,id,_,ae N rfl,?_⟩;rw[f7];refine PC.ok (Dw d1) ?_;rintro _ d2 ⟨f,F2,rfl,Y,d4,C⟩;have a9:=W.then C;have d5:=br.ah M fQ C;refine⟨_,rfl,C,PC.ok (MT L.decl L.every ((A.mI.ah A.gr).ah a9) (show aW d2 (λP=>F P/\cls P=1) c.decl h.ta h.tn h.pa h.pn from d5.at' 1) λP a=>d5.aC P a.1) ?_⟩;rintro _ g1 ⟨i,F4,rfl,Z,d6,b7⟩;have y3:=W.size;have j5:=C.size;have j6:=b7.size;rw[show(max 1 c.every).toNat=c.every.toNat by congr 1;omega]at Z;have j0:=Y.aC;obtain⟨Fa,d7,E,b0,g2,-⟩:=M.Fk fQ (k:=3) (w':=d2) (G':=F2) (C2:=recC p (vR h c self z1 z2 z3) {h with sp:=f} c {X with S:=⟨c.bR.toNat,[]⟩} true) (ai.af C) (λP a m=>by have:=d4 P a;have:=g0 P m;omega) Y.aC (λ_=>⟨Y,au.Cl.new d1,rfl⟩) λb G j k=>by
  rcases b with _|_|_|_|_|_|_|b<;>first|exact k|exact Zz rfl j
 obtain⟨u,r,b8,b1,g4,-⟩:=E.Fk fQ (k:=4) (w':=g1) (G':=F4) (C2:=kj p (vR h c self z1 z2 z3) {h with sp:=f,bp:=i} c {X with S:=⟨c.bR.toNat,[]⟩} []) (ai.af b7) (λP a m=>by have:=d6 P a;have:=E.aC P m;omega) Z.aC Z λb G j k=>by
  rcases b with _|_|_|_|_|_|_|b<;>first|exact k|exact k rfl|exact Zz rfl j
 have e1:∀P,u P->F P\/w.heap.size<=P:=λP a=>by
  rcases g4 P a with l|l
  ·rcases g2 P l.1 with h6|h6
   ·exact .inl h6.1
   ·exact .inr (by have:=d4 P h6;omega)
  ·exact .inr (by have:=d6 P l;omega)
 refine⟨_,rfl,p,0,rfl,PS.mk (b8.at' 0).2 sM λj7 d8 j8 g5=>⟨p,0,rfl,PS.mk g5 sM λb9 d9 j9 g6=>λc0 g7=>?_⟩⟩;have j1:u p/\r p=0:=(b8.at' 0).1;have e0:ai b9 c0:=g7.af;have g8:br b9 u r (kj p (vR h c self z1 (XM f) (XM i)) {h with sp:=f,bp:=i} c {X with S:=⟨c.bR.toNat,[]⟩} []):=cu.store b8 (d8.then d9) g6;have b2:cz F w u b9:=⟨((ai.af a9).ah b7).then ((d8.then d9).mono λP _ g=>by have g:P=p:=g;rw[g];exact V.1),e1⟩
 have H:=br.ah g8 bA e0;have O:cz F w u c0:=⟨b2.af.ah e0,b2.new⟩
 have e4:=A.AY O;have e2:=(H.at' 0).2;have g9:=DL.tR (show DL c0 (λP=>u P/\r P=2) h.dp h.lp X.D X.log from H.at' 2) (e4.sub λP a=>a.1);refine⟨p,0,rfl,_,ae e2 rfl,p,0,rfl,_,ae e2 rfl,PC.ok (Gg A.laid g9) ?_⟩;have a0:∀{d},(if(eg X.D c.bN).no≠0 then((eg X.D c.bN).no,{X with D:=(eg X.D c.bN).D,log:=none,S:=⟨c.bR.toNat,[]⟩})
   else(0,{X with D:=(eg X.D c.bN).D,log:=some (eg X.D c.bN).V,S:=(⟨c.bR.toNat,[]⟩:au).e_ (eg X.D c.bN).out}))=d->gI c X=d:=λ{d} hq=>hq
 have b3:=AA (D:=X.D) (size:=c.bN);generalize eg X.D c.bN=d at a0 b3;rintro _ h4 (⟨I,rfl,e8,c2⟩|⟨I,s,e9,a1,cc,G,rfl,c3,h7,c2,hG,hq,j2⟩)
 ·obtain⟨G2,c4,a2,c5,-⟩:=DL.KI (Y:=λ_=>False) (e8.mono λP a=>a.elim id False.elim) c2
  obtain⟨t,Q,v,a3,-,-⟩:=H.AY bA (k:=2) (G':=G2) (C2:=kj p (vR h c self z1 (XM f) (XM i)) {h with sp:=f,bp:=i,lp:=none} c {X with S:=⟨c.bR.toNat,[]⟩,D:=d.D,log:=none} []) a2 c5 (by
    obtain⟨Fd,h1,h2,M⟩:=c4;exact⟨Fd,h1,h2,rfl⟩) λb G j k=>by
   rcases b with _|_|_|_|_|_|_|b<;>first|exact k|exact Zz rfl j
  refine⟨_,_,_,_,_,rfl,p,0,rfl,PS.mk (v.at' 0).2 sM λx y e3 c6=>an.df (λ_=>Ok.mk ?_) (λh0=>Zz h0 I)⟩;rw[a0 (Zx I)];refine⟨rfl,Qj _,{h with sp:=f,bp:=i,lp:=none},t,Q,cu.store v y c6,?_⟩;have J:=O.trans a3;exact⟨J.af.then (y.mono λP _ g=>by have g:P=p:=g;rw[g];exact V.1),J.new⟩
 ·obtain⟨G2,c4,a2,c5,hY⟩:=DL.EF h7 c2 (b3 I)
  obtain⟨t,Q,v,a3,h8,-⟩:=H.AY bA (k:=2) (G':=G2) (C2:=kj p (vR h c self z1 (XM f) (XM i)) {h with sp:=f,bp:=i,lp:=XM s} c {X with S:=⟨c.bR.toNat,[]⟩,D:=d.D,log:=some d.V} []) a2 c5 c4 λb G j k=>by
   rcases b with _|_|_|_|_|_|_|b<;>first|exact k|exact Zz rfl j
  refine⟨_,_,_,_,_,rfl,p,0,rfl,PS.mk (v.at' 0).2 sM λx y e3 c6=>an.df (λh0=>Zz rfl h0) (λ_=>?_)⟩;have f0:br x t Q (kj p (({h with sp:=f,bp:=i,lp:=XM s}:iL).cells c self) {h with sp:=f,bp:=i,lp:=XM s} c {X with S:=⟨c.bR.toNat,[]⟩,D:=d.D,log:=some d.V} []):=cu.store v y c6;have J:=O.trans a3;have b4:cz F w t x:=⟨J.af.then (y.mono λP _ g=>by have g:P=p:=g;rw[g];exact V.1),J.new⟩
  have j3:=O.af.size;have c7:∀P,G P->¬t P:=λP a m=>by
   rcases h8 P m with l|l
   ·have:=H.aC P l.1;have:=hG P a;omega
   ·exact hY P l a
  have h9:∀P,G P->P≠p:=λP a g=>c7 P a (g▸(v.at' 0).1.1);have b5:=c3.aC;have k0:=c3.len dC;have b6:Row fY 96 x G e9 a1 d.out:=oZ.row (((c3.af y λP a g=>h9 P a g)).row dC ba);have k1:x.heap.size=h4.heap.size:=e3;rw[a0 (Zq (by simpa using I))];have f9:=Oy b6;refine⟨λc1 a4 w'=>∃(b:Nat) (R:XN) (e5:Nat->Nat),a4=b/\b<=a1/\c1=a1-b/\br w' R e5 (kj p (({h with sp:=f,bp:=i,lp:=XM s}:iL).cells c self) {h with sp:=f,bp:=i,lp:=XM s} c {X with S:=(⟨c.bR.toNat,[]⟩:au).e_ (d.out.take b),D:=d.D,log:=some d.V} [])/\cz t x R w',
   ⟨_,0,t,Q,rfl,Qj _,rfl,f0,cz.refl _ _⟩,?_⟩
  rintro c1 _ _ e6 ⟨b,R,e5,rfl,j,rfl,c8,z⟩;have i0:∀P,G P->¬R P:=λP a m=>by
   rcases z.new P m with l|l
   ·exact c7 P a l
   ·have:=b5 P a;omega
  have c9:=au.lF (d.out.take b) ⟨c.bR.toNat,[]⟩;rw[Qy]at c9;simp only[ZQ]at c9;refine an.dec (λk2=>?_) (λk4=>?_)
  ·obtain⟨n,S⟩:∃n,d.out[b]? =some n:=⟨_,Qq oM⟩
   obtain⟨P,f1,es,ha,k5,k6,i1,xa,xn,xc,rfl,i2,d0⟩:=(b6.af z.af c7).el b n S;refine⟨P,f1,ha,oM,oM,bl (es:=aB n xa xn xc) (k:=10) (aV _ _ _ _) rfl (λa4 ht=>by rw[Qx];exact i1 a4 ht) (PA.mk λk7 i3 k8 i4=>az (aV n xa xn xc) i4 rfl λk9 i5 l0 i6=>λi7 e7=>?_)⟩;have K:ai e6 i7:=(i3.new i5 λP a=>.inr (by have a:P=e6.heap.size:=a;omega)).then e7.af;have a5:=br.ah c8 bA K;have l3:=z.af.size;obtain⟨f3,f4,f5⟩:=a5.at' 3;refine⟨p,0,rfl,_,ae (a5.at' 0).2 rfl,ar (aV n xa xn xc) ((e7.af (S:=λ_=>False)).get i6 id) (PC.ok (sR f3 (i2.ah K) (λP a=>⟨by have:=b5 P a;have:=K.size;omega,λm=>i0 P a m.1⟩) d0 (by show((⟨c.bR.toNat,[]⟩:au).e_ (d.out.take b)).l.length<_;omega)) ?_)⟩;rintro _ l4 ⟨rfl,F8,f2,f6⟩;have i8:((⟨c.bR.toNat,[]⟩:au).e_ (d.out.take (b+1)))=(((⟨c.bR.toNat,[]⟩:au).e_ (d.out.take b)).add n).2:=by
    rw[Qw,S];exact au.qb ..
   obtain⟨F9,a6,a7,o,-⟩:=a5.AY bA (k:=3) (G':=F8) (C2:=kj p (({h with sp:=f,bp:=i,lp:=XM s}:iL).cells c self) {h with sp:=f,bp:=i,lp:=XM s} c {X with S:=(⟨c.bR.toNat,[]⟩:au).e_ (d.out.take (b+1)),D:=d.D,log:=some d.V} []) f6 f2.aC (by rw[i8];exact⟨f2,f4.add d0,(au.QP _ _).trans f5⟩) λb G j k=>by
    rcases b with _|_|_|_|_|_|_|b<;>first|exact k|exact Zz rfl j
   exact⟨_,rfl,_,oM,b+1,F9,a6,aq oM,oM,rfl,a7,z.trans ⟨(ai.af K).then o.af,λP a=>(o.new P a).imp id λh1=>by have:=K.size;omega⟩⟩
  ·rw[Qz oM]at c8 c9
   exact AE c8 (A.AY (b4.trans z)) (λg3 n h3 S=>by simp at S) (by show((⟨c.bR.toNat,[]⟩:au).e_ d.out).l.length<=_;omega) (κ:=λB w'=>Ok (λB w'=>B= XH 0/\((⟨c.bR.toNat,[]⟩:au).e_ d.out).l.length<=16777216/\∃U q e,cu w' q e p U c self {X with S:=(⟨c.bR.toNat,[]⟩:au).e_ d.out,D:=d.D,log:=some d.V}/\cz F w q w') (.returned B) w')
    λw' q e a8 f8=>Ok.mk ⟨rfl,oM,_,q,e,a8,(b4.trans z).trans f8⟩
end
structure px where
 code:Int
 id:Int×Int
 st:ll
 Su:List cC
 rows:List dt
 more:Bool
def l_(P:px)(a:ZH)(b c:Nat)(d:ZH)(e f:Nat)(g:ZH)(h i:Nat):List Value:=
 [XH P.code,XH P.id.1,XH P.id.2,XH P.st.version,.slice a b c,.slice d e f,.slice g h i,.bool P.more]
def iM(P:px)(a:ZH)(b c:Nat)(d:ZH)(e f:Nat)(g:ZH)(h i:Nat):gN XP 46 (l_ P a b c d e f g h i)=true:=kR
def gY(i:World)(P:px)(j:Value)(a:World):Prop:=∃(c:ZH) (d k:Nat) (e:ZH) (f l:Nat) (g:ZH) (h m:Nat) (G:XN),j= .agg (l_ P c d k e f l g h m).toArray/\
 Row eO 32 a G c d P.st.cells/\Row wZ 120 a G e f P.Su/\Row Fz 24 a G g h P.rows/\∀b,G b->i.heap.size<=b/\b<a.heap.size
abbrev kM(P:Int):px:=⟨P,(0,0),⟨0,[]⟩,[],[],false⟩
abbrev AF(id:Int×Int):px:=⟨0,id,⟨0,[]⟩,[],[],false⟩
structure iQ.Ok (x:iQ):Prop where
 aT:aK x.aT
 agg:aK x.agg
 field:aK x.field
 op:aK x.op
 arg:aK x.arg
 key:aK x.key
variable{e5:px}
section
variable {w w' w0:World} {p:Nat} {F E T:XN} {cls:Nat->Nat} {h:iL} {c:cy} {self:Int} {X:bD} {evs lB:List aj} {ea:ZH} {en ec:Nat}
def gY.plain(P:e5.st.cells=[])(a:e5.Su=[])(b:e5.rows=[]):gY w e5 (.agg (l_ e5 none 0 0 none 0 0 none 0 0).toArray) w':=
 ⟨none,0,0,none,0,0,none,0,0,λ_=>False,rfl,by rw[P];exact dy _ _,by rw[a];exact dy _ _,by rw[b];exact dy _ _,λd c=>c.elim⟩
def row_one{a:jh j}{bytes b:Nat}{w:World}{P:Array Value}{f:j}{D:XN}(h:w.heap[b]? =some (.cells P g C))(i:a.rep w D f P.toList)(k:bytes<=1000):Row a bytes w (λc=>c=b\/D c) (XM b) 1 [f]:=by
 have o:=a.len i;refine⟨rfl,by unfold aI;omega,λd p e=>?_⟩;obtain rfl:d=0:=by
  rcases d with _|d
  ·rfl
  ·simp at e
 simp at e;subst e;refine⟨b,0,P.toList,rfl,ay h,.inl rfl,λl m=>?_,a.mono i λc k=>.inr k⟩;have n:l<P.size:=by rw[<-o]at m;simpa using m
 rw[ae h (v:=P[l]) (by simp[n])];simp[n]
def Sv(j:B.OK){M:Int}(e:0<=M)(f:∀P∈B.l,P.ax<=M):B.top<=M:=by
 have:∀(b:List aj) (a:Int),a<=M->(∀P∈b,P.ax<=M)->b.foldl (λa P=>max a P.ax) a<=M:=by
  intro b
  induction b with
  |nil=>intro a c _;exact c
  |cons P b g=>
   intro a c d;refine g _ ?_ λh i=>d h (QJ _ i);have:=d P (QV ..);show max a P.ax<=M;omega
 exact this B.l 0 e f
def JB[Decidable K](P:g5.1.Ok)(a:g6.1.Ok):(if K then g5 else g6).1.Ok:=by
 split
 ·exact P
 ·exact a
def Hm(P:d1.Ok)(d:aK e)(g:aK q)(a:∀f∈u,aK f):(aQ d1 e u q).2.Ok:=by
 have h:=AG a e;unfold aQ;dsimp only
 by_cases b:e<0\/(u.length:Int)<=e\/q<0
 ·rw[Zx b];exact AH
 rw[Zq b]
 by_cases c:eI u e=9223372036854775807\/q=9223372036854775807
 ·rw[Zx c];exact AH
 rw[Zq c];refine⟨d,?_,?_,CR a sM,P.aT,P.agg,P.field,P.op,P.arg,P.key⟩
 ·show aK (eI u e+1);unfold aK at*;omega
 ·show aK (q+1);unfold aK at*;omega
def Qi(e:B.l.length<=20000000):∀a∈B.vec,aK a:=λa c=>by
 obtain⟨d,P,rfl⟩:=List.getElem_of_mem c;rw[B.bq]at P;have b:=B.jt P;rw[Qq (by rw[B.bq];exact P)]at b;rw[XJ b];have:=B.El d;unfold aK;omega
def KJ(P:B.OK):aK B.top:=by
 have c:=Sv P (M:=9223372036854775807) oM λa b=>by have:=(P.ok a b).ax;unfold aK at this;omega
 have d:=B.zR;unfold aK;omega
def Ql(a:d1.Ok)(P:B.OK)(b:aK e)(h:aK q)(c:B.l.length<=20000000):(lX I B d0 e q d1).1.Ok:=by
 have d:aK (max B.top q):=by
  have i:=KJ P;unfold aK at*;omega
 rw[lY];refine JB AH ?_
 cases f:B.keyed d1.key with
 |some g=>exact P.ok g (List.mem_of_find?_eq_some f)
 |none=>exact JB AH (JB AH (Hm a b d (Qi c)))
end
section
variable {w w' w0:World} {p:Nat} {F E T:XN} {cls:Nat->Nat} {h:iL} {c:cy} {self:Int} {X:bD}
def ky.NS(P:ky c self):0<=self/\self<c.bR:=by
 have:=P.right;unfold je within at this;simp only[QK,Zk]at this;omega
def kC(hr:bu w p F c self X)(J:Env w0 w F)(hx:d1.Ok)(hl:X.S.l.length+1<=20000000):
  ZG 13 #[XL p,oF d1] w (Ok λa3 w'=>∃e,gY w (if(bI c self X d1).1≠0 then kM (bI c self X d1).1 else AF (bI c self X d1).2.1) a3 w'/\bu w' p e c self (bI c self X d1).2.2/\cz F w e w'):=by
 have b8:=hr;obtain⟨q,h,cls,m⟩:=hr;have u:=m.aC;have e2:=(m.Hb)
 have g6:=u p e2.1;have d4:aK self:=by have:=q.NS;have:=q.bR;unfold aK;omega
 refine j_ (PA.mk λC e3 g7 e4=>PA.mk λb2 c1 g8 d5=>?_);have a1:=e3.then c1;have e5:=cu.ah m a1;have E:∀{g:World} {e:XN} {l:bD} {y:px},y.st.cells=[]->y.Su=[]->y.rows=[]->(∃r,g.heap[C.heap.size]? =some (.cells r 46 (0,0))/\r.size=8)->bu g p e c self l->(∀P,e P->F P\/b2.heap.size<=P)->cz F w e g->(bI c self X d1).2.2=l->(if(bI c self X d1).1≠0 then kM (bI c self X d1).1 else AF (bI c self X d1).2.1)=y->
   w_ XP 46 (XL C.heap.size) (.agg (l_ y none 0 0 none 0 0 none 0 0).toArray) g λc2=>nK XP 46 (XL C.heap.size) c2 λb=>Ok (λa3 w'=>∃e,gY w (if(bI c self X d1).1≠0 then kM (bI c self X d1).1 else AF (bI c self X d1).2.1) a3 w'/\bu w' p e c self (bI c self X d1).2.2/\cz F w e w') (.returned b) c2:=λ{g e l y} y1 y2 y3 hz b3 b4 Q hX hy=>by
  obtain⟨r,hg,e6⟩:=hz;refine az (iM y none 0 0 none 0 0 none 0 0) hg (by rw[e6];rfl) λc2 d6 g9 e7=>ar (iM y none 0 0 none 0 0 none 0 0) e7 (Ok.mk ⟨e,by rw[hy];exact gY.plain y1 y2 y3,?_,Q.af.new d6 λP a=>.inr (by have a:P=C.heap.size:=a;omega),Q.new⟩);rw[hX];refine b3.af d6 λP a f=>?_;have f:P=C.heap.size:=f;rcases b4 P a with h1|h1
  ·have:=u P h1;omega
  ·omega
 refine⟨p,0,rfl,_,ae e5.bf rfl,fE Tryz.underlying95 ⟨_,rfl,?_⟩⟩;have d7:DL w (λP=>F P/\cls P=2) h.dp h.lp X.D X.log:=m.at' 2;obtain⟨hS,R,hn⟩:=(show cj w h.sp (λP=>F P/\cls P=3) X.S/\X.S.Cl/\X.S.n=c.bR.toNat from m.at' 3)
 cases S:X.log with
 |none=>
  obtain⟨Fd,-,-,h3⟩:=d7;rw[S]at h3;have h3:h.lp=none:=h3;rw[h3];refine an.tt rfl ?_;have n:bI c self X d1=(15,(0,0),X):=by unfold bI;rw[S]
  exact E (y:=kM 15) rfl rfl rfl ⟨_,d5,rfl⟩ (b8.ah a1) (λP a=>.inl a) ⟨ai.af a1,λP a=>.inl a⟩ (by rw[n]) (by rw[n];rfl)
 |some f6=>
 obtain⟨f8,a4,c3,-⟩:=DL.Mk (S▸d7) (J.sub λP a=>a.1) λP a=>u P a.1;rw[a4];refine an.ff rfl λe8 e9=>⟨λ_=>False,?_⟩
 have b5:ai b2 e8:=e9.af;have a2:=a1.then b5;have c4:=cu.ah m a2;refine⟨p,0,rfl,id,_,_,_,_,_,_,ae c4.bf rfl,ae c4.bf rfl,p,0,rfl,_,ae c4.bf rfl,PC.ok (p_ (hS.ah a2) oM) ?_⟩;rintro _ h2 ⟨la,ln,lc,G,rfl,c5,K,hG⟩;have h4:=c5.len dC;have f2:=c5.aC;have T:=a2.then K;have h6:=cu.ah m T;have b9:∀{g:World},ai w g->aW g (λP=>F P/\cls P=1) c.decl h.ta h.tn h.pa h.pn:=λ{g} H=>(cu.ah m H).at' 1;refine⟨_,_,_,rfl,K,PC.ok (Fc q.decl (J.mI.ah (J.gr.then T)) (b9 T) (λP a=>by have:=u P a.1;have:=T.size;omega) (c5.row dC ba) (λP a=>f2 P a) oM) ?_⟩;rintro _ I ⟨vp,Fv,rfl,hv,h7,L⟩;have M:=T.then L;have c0:=((c1.then b5).then K).then L;obtain⟨g4,f3⟩:=FA q.decl X.S.l;obtain⟨b,c6⟩:∃b,b=lX c.decl X.S (cf c.decl X.S.l) self c.start d1:=⟨_,rfl⟩
 have h8:=a2.size;have h9:=K.size;have i0:=L.size;have v:∀{g:World},ai I g->ZG 42 #[.agg #[.slice h.ta h.tn h.tc,.slice h.pa h.pn h.pc],XL h.sp,XL vp,XH self,XH c.start,oF d1] g (Ok (ur g b)):=λ{g} H=>by
  rw[c6];exact BT (J.mI.ah ((J.gr.then M).then H)) (b9 (M.then H)) (λP a=>by have:=u P a.1;have:=(M.then H).size;omega) q.decl (hS.ah (M.then H)) oM (hv.ah H) f3
   (by have:=q.start;unfold aK at this;omega) (by have:=KJ R.ok;unfold aK at this;omega)
 refine⟨_,rfl,L,λU eo o no w'=>eo=0/\∃i j k G,w'.heap[U]? =some (.cells (aB b.1 i j k).toArray 55 (0,0))/\Row aG 8 w' G i j b.1.aN/\(∀P,G P->I.heap.size<=P/\P<w'.heap.size)/\I.heap.size<=U/\o=b.2.1/\no=b.2.2/\ai I w',?_,?_⟩
 ·intro x d8
  have N:ai I x:=d8.af;have i1:x.heap.size=I.heap.size:=by rw[d8.heap]
  have d9:=M.then N;have V:=cu.ah m d9;have e0:=N.get (c0.get e4 id) id;have nS:¬x.heap.size<=p:=oM
  have f4:¬x.heap.size<=w.heap.size:=by have:=b5.size;have:=K.size;have:=L.size;omega
  refine⟨λP=>x.heap.size<=P,p,0,rfl,nS,_,_,_,_,_,_,ae V.bf rfl,ae V.bf rfl,p,0,rfl,nS,_,ae V.bf rfl,p,0,rfl,nS,_,ae V.bf rfl,p,0,rfl,nS,_,ae V.bf rfl,f4,ar (vX d1) e0 ⟨PC.ok (v N) ?_,PA.mk λi2 c7 i3 f5=>⟨ai.af c7,PC.ok (v (N.then c7)) ?_⟩⟩⟩
  ·rintro _ c8 ⟨i,j,k,G,rfl,W,s,c9⟩
   have i4:=c9.size;refine bE (qt b.1 i j k) ⟨_,_,rfl,ai.af c9,PA.mk λi5 d0 i6 f7=>⟨ai.af d0,az (aV b.1 i j k) f7 rfl λi7 a5 i8 g0=>⟨a5.mono λP _ f=>by have f:P=c8.heap.size:=f;omega,rfl,i,j,k,G,g0,?_,λP a=>⟨by have:=s P a;omega,by have:=s P a;omega⟩,oM,rfl,rfl,?_⟩⟩⟩
   ·exact(W.ah d0).af a5 λP a f=>by have f:P=c8.heap.size:=f;have:=(s P a).2;omega
   ·exact((N.then c9).then d0).new a5 λP a=>.inr (by have a:P=c8.heap.size:=a;omega)
  ·rintro _ i9 ⟨i,j,k,G,rfl,W,s,b6⟩
   have j0:=b6.size;refine bE (qt b.1 i j k) ⟨_,_,rfl,ai.af b6,az (aV b.1 i j k) (b6.get f5 id) rfl λj1 d2 j2 g1=>⟨d2.mono λP _ f=>by have f:P=x.heap.size:=f;omega,rfl,i,j,k,G,g1,?_,λP a=>⟨by have:=s P a;omega,by have:=s P a;omega⟩,oM,rfl,rfl,?_⟩⟩
   ·exact W.af d2 λP a f=>by have f:P=x.heap.size:=f;have:=(s P a).1;omega
   ·exact((N.then c7).then b6).new d2 λP a=>.inr (by have a:P=x.heap.size:=a;omega)
 rintro U _ o no _ O ⟨rfl,i,j,k,G2,d,W,s,j3,rfl,rfl,d3⟩;have Y:=M.then d3;have j4:=cu.ah m Y;have g5:=c0.then d3;have b0:=d3.get (L.get (K.get (b5.get d5 id) id) id) id;have a6:b.1.Ok:=by rw[c6];exact Ql hx R.ok d4 q.start oM
 have a7:∀{z:Int×(Int×Int)×bD},(if b.2.2≠0 then(b.2.2,(0,0),X)else if b.2.1 then(if(cR c X [b.1]).1≠0 then((cR c X [b.1]).1,(0,0),(cR c X [b.1]).2)else(0,aR b.1,(cR c X [b.1]).2))else(0,aR b.1,X))=z->bI c self X d1=z:=λ{z} ht=>by
  rw[<-ht,c6];unfold bI;rw[S]
 have j5:=Y.size;have f0:=ay d;refine⟨λz w'=>∃e l,bu w' p e c self l/\cz F w e w'/\(∀P,e P->F P\/b2.heap.size<=P)/\w'.heap[U]? =some (.cells (aB b.1 i j k).toArray 55 (0,0))/\(∃r,w'.heap[C.heap.size]? =some (.cells r 46 (0,0))/\r.size=8)/\bI c self X d1=(if z≠0 then(z,(0,0),l)else(0,aR b.1,l)),?_,?_⟩
 ·have A:bI c self X d1=(if b.2.2≠0 then(b.2.2,(0,0),X)else(0,aR b.1,X))->∃e l,bu O p e c self l/\cz F w e O/\(∀P,e P->F P\/b2.heap.size<=P)/\O.heap[U]? =some (.cells (aB b.1 i j k).toArray 55 (0,0))/\(∃r,O.heap[C.heap.size]? =some (.cells r 46 (0,0))/\r.size=8)/\bI c self X d1=(if b.2.2≠0 then(b.2.2,(0,0),l)else(0,aR b.1,l)):=λn=>
   ⟨F,X,b8.ah Y,⟨ai.af Y,λP a=>.inl a⟩,λP a=>.inl a,d,⟨_,b0,rfl⟩,n⟩
  refine an.dJ (λB=>an.mk (λt=>?_) (λt=>A (a7 (by rw[Zq (by simpa using B),Zq (by simpa using t),Zq (by simpa using B)])))) (λB=>A (a7 (by rw[Zx B,Zx B])));refine⟨_,_,_,_,_,_,_,_,_,_,_,_,ae d rfl,ae d rfl,ae d rfl,ae d rfl,ae d rfl,ae d rfl,ae d rfl,ae d rfl,ae d rfl,ae d rfl,PA.mk λe1 b7 j6 g2=>?_⟩;have a9:=Y.then b7;have f1:Row fY 96 e1 (λP=>P=O.heap.size\/G2 P) (XM O.heap.size) 1 [b.1]:=row_one g2 ⟨i,j,k,rfl,W.ah b7,a6⟩ dC;refine PC.ok (Hc (cu.ah m a9) q (J.ah a9) S f1 (λP a=>?_) (by simpa using hl)) ?_
  ·have g3:I.heap.size<=P/\P<e1.heap.size:=a.elim (λf=>⟨oM,oM⟩) λh5=>by have:=s P h5;omega
   exact⟨g3.2,λt=>by have:=u P t.1;omega⟩
  rintro _ j7 ⟨rfl,h',e,Z,a8,a0,-⟩;refine⟨_,rfl,e,(cR c X [b.1]).2,⟨q,h',Z,a8⟩,⟨(ai.af a9).then a0.af,λP a=>(a0.new P a).imp id λh1=>oM⟩,λP a=>(a0.new P a).imp id λh1=>by have:=c1.size;omega,a0.af.get (b7.get d id) λt=>by have:=u _ t;omega,⟨_,a0.af.get (b7.get b0 id) λt=>by have:=u _ t;omega,rfl⟩,?_⟩;exact a7 (by rw[Zq (by simpa using B),Zx t])
 ·rintro z _ j8 ⟨e,l,b3,Q,b4,b1,hz,n⟩
  refine an.df (λc3=>?_) (λB=>⟨_,_,ae b1 rfl,ae b1 rfl,?_⟩)
  ·rw[Zx c3]at n
   exact E (y:=kM z) rfl rfl rfl hz b3 b4 Q (by rw[n]) (by rw[n];exact Zx c3)
  ·rw[Zq (by simpa using B)]at n
   exact E (y:=AF (aR b.1)) rfl rfl rfl hz b3 b4 Q (by rw[n]) (by rw[n];rfl)
end
def ei(d:World)(e:XN)(h:List cN)(i:Value)(b:World):Prop:=
 ∃(a:ZH) (f g:Nat) (c:List E_) (D:XN),i= .slice a f g/\aO Qf 60 (λP=>aF a=some P) b a f g c/\c.map (·.m)=h/\(∀P∈c,P.In b D)/\(∀P,D P->d.heap.size<=P/\P<b.heap.size/\aF a≠some P/\¬e P)/\∀P,aF a=some P->d.heap.size<=P/\¬e P
section
variable {w w' w0 w1:World} {p:Nat} {F E T Z:XN} {cls:Nat->Nat} {h:iL} {c:cy} {self:Int} {X:bD} {ms:List cN} {v:Value}
def aZ.out(f:aZ w1 ms v w')(d:∀P,Z P->P<w1.heap.size)(o:w.heap.size<=w1.heap.size):ei w Z ms v w':=by
 obtain⟨g,h,i,j,D,k,l,m,n,b,e,p⟩:=f;exact⟨g,h,i,j,D,k,l,m,n,λP a=>⟨by have:=(b P a).1;omega,(b P a).2.1,(b P a).2.2,λc=>by have:=d P c;have:=(b P a).1;omega⟩,λP a=>⟨by have:=e P a;omega,λc=>by have:=d P c;have:=e P a;omega⟩⟩
def ei.nil(w0 w:World)(Z:XN):ei w0 Z [] (.slice none 0 0) w:=⟨none,0,0,[],λ_=>False,rfl,(aO.nil w).mono (λa P=>P.elim) (λa P=>(by cases P)),rfl,sM,λa P=>P.elim,λa P=>(by cases P)⟩
def aZ.one{m:cN}{va c:ZH}{vn vc d e b:Nat}{D:XN}(g:w.heap[b]? =some (.cells (bH m va vn vc c d e).toArray 60 (0,0)))(i:(⟨m,va,vn,vc,c,d,e⟩:E_).In w D)(f:∀a,D a->w0.heap.size<=a/\a<w.heap.size/\a≠b)(k:w0.heap.size<=b)(j:ai w0 w):
  aZ w0 [m] (.slice (XM b) 1 1) w:=by
 have l:=ay g;refine⟨XM b,1,1,[⟨m,va,vn,vc,c,d,e⟩],D,rfl,⟨⟨bH m va vn vc c d e,λ_=>False,Own.yu g rfl (by unfold maxLen;omega),bz.one ⟨rfl,trivial⟩,λa P=>P.elim⟩,λa P=>P,λa P=>?_⟩,rfl,λa P=>?_,λa P=>⟨(f a P).1,(f a P).2.1,λh=>?_⟩,λa P=>?_,j⟩
 ·simp only[aF,Q1]at P;omega
 ·simp at P;subst P;exact i
 ·simp only[aF,Q1]at h;exact(f a P).2.2 h.symm
 ·simp only[aF,Q1]at P;omega
def tU(o:bu w p F c self X)(A:aK e):
  ZG 55 #[XL p,XH e,XH q] w (Ok λv w'=>∃P,ei w P (fO c self X e q).1 v w'/\bu w' p P c self (fO c self X e q).2/\cz F w P w'):=by
 have B:=o;obtain⟨C,h,cls,d⟩:=o;have no:(e<0\/e>=c.bR\/e=self)->Ok (λv w'=>∃P,ei w P (fO c self X e q).1 v w'/\bu w' p P c self (fO c self X e q).2/\cz F w P w') (.returned (.slice none 0 0)) w:=λj=>by
  have:fO c self X e q=([],X):=by unfold fO;rw[Zx j]
  rw[this];exact Ok.mk ⟨F,ei.nil _ _ _,B,cz.refl _ _⟩
 refine jE (an.dec (λk=>no (.inl k)) (λk=>⟨p,0,rfl,_,ae d.bf rfl,an.dec (λl=>no (.inr (.inl l))) (λl=>⟨p,0,rfl,_,ae d.bf rfl,an.dJ (λm=>no (.inr (.inr m))) (λm=>⟨p,0,rfl,_,ae d.bf rfl,?_⟩)⟩)⟩));have E:fO c self X e q=([jv X.S self e],{X with fr:={X.fr with asked:=aH X.fr.asked e q}}):=by unfold fO;rw[Zq (by rintro(h|h|h);exact k h;exact l h;exact m h)]
 refine PC.ok (Hn (d.at' 6) A) ?_;rintro _ r ⟨rfl,H,s⟩;have I:cu r F cls p h c self {X with fr:={X.fr with asked:=aH X.fr.asked e q}}:=br.same d bA (k:=6) s H λt G J j=>by
  rcases t with _|_|_|_|_|_|_|t<;>first|exact j|exact Zz rfl J
 refine⟨rfl,λn K=>?_⟩;have u:ai r n:=K.af;have b:=cu.ah I u;refine⟨p,0,rfl,_,ae b.bf rfl,p,0,rfl,_,ae b.bf rfl,PC.ok (wJ (b.at' 3).1) ?_⟩;rintro _ L ⟨S,T,U,G,rfl,x,M,g⟩;have y:=x.aC;have N:=g.size;refine⟨_,_,_,_,_,_,_,_,_,rfl,PA.mk λO i V Q=>?_⟩;rw[E];have R:aZ n [jv X.S self e] (.slice (XM L.heap.size) 1 1) O:=aZ.one (D:=G) Q ⟨(x.ah i).row dC (by show X.S.vec.length*8<=aI;rw[X.S.bq];have:=(b.at' 3).1.1.n;have:X.S.n<=64:=this;unfold aI;omega),dy _ _⟩ (λf a=>⟨M f a,by have:=y f a;omega,by have:=y f a;omega⟩) N (g.then i);have z:ak F w n:=(s.mono λf _ a=>a.1).ah u;exact Ok.mk ⟨F,R.out b.aC z.size,⟨C,h,cls,cu.ah b (g.then i)⟩,(z.ah g).ah i,λf a=>.inl a⟩
def Qm(T:iO)(c:Int):∀P∈T.due c,P∈T.open:=by
 have:∀(d:List Int) (e:List Int×List (Int×Int)),∀P∈(d.foldl (fk T.cQ c) e).1,P∈e.1\/P∈d:=by
  intro d
  induction d with
  |nil=>intro e P a;exact .inl a
  |cons h d g=>
   intro e P a;rcases g _ P a with b|b
   ·unfold fk at b
    split at b
    ·rcases Q6.1 b with f|f
     ·exact .inl f
     ·simp at f;subst f;exact .inr (QV ..)
    ·exact .inl b
   ·exact .inr (QJ _ b)
 intro P a;unfold iO.due iO.gZ at a;rw[List.take_length]at a;exact(this T.open ([],T.asked) P a).resolve_left sM
def OA{T:iO}(b:∀P∈T.asked,aK P.1):∀a∈T.open,aK a:=λa c=>by
 have:a∈T.asked.map (·.1):=(List.mergeSort_perm _ _).mem_iff.1 c;obtain⟨P,d,rfl⟩:=Xk.1 this;exact b P d
def Qn(T:iO)(P:Int):(T.due P).length<=T.asked.length:=by
 have:∀(b:List Int) (a:List Int×List (Int×Int)),(b.foldl (fk T.cQ P) a).1.length<=a.1.length+b.length:=by
  intro b
  induction b with
  |nil=>intro a;simp
  |cons c b e=>
   intro a;have d:=e (fk T.cQ P a c);have f:(fk T.cQ P a c).1.length<=a.1.length+1:=by
    unfold fk;split
    ·simp
    ·omega
   simp only[List.foldl_cons,Xq];omega
 have d:=this T.open ([],T.asked);unfold iO.due iO.gZ;rw[List.take_length];have f:T.open.length=T.asked.length:=by simp[iO.open,uu]
 simp only[ZQ]at d;omega
def NU(M:bu w p F c self X)(b:X.fr.asked.length<=1000):
  ZG 58 #[XL p,XH e] w (Ok λv w'=>∃m,ei w m (Ho self X e).1 v w'/\bu w' p m c self (Ho self X e).2/\cz F w m w'):=by
 obtain⟨N,h,cls,n⟩:=M;have u:dA w h.tp (λP=>F P/\cls P=6) X.fr:=n.at' 6;have O:∀d∈X.fr.due e,aK d:=λd g=>OA u.qX d (Qm _ _ d g);have b0:=Qn X.fr e;refine mJ ⟨p,0,rfl,_,ae n.bf rfl,PC.ok (Mr u ba) ?_⟩;rintro _ i ⟨Q,o,cc,rfl,x,R,q,hn⟩;have y:cu i F cls p h c self {X with fr:=X.fr.OB e}:=br.same n bA (k:=6) q R λa G z S=>by
  rcases a with _|_|_|_|_|_|_|a<;>first|exact S|exact Zz rfl z
 have T:=x.length;rw[iv,Nat.mul_one]at T;have U:Ints i Q o (X.fr.due e):=x.ints ba O;have V:=y.aC;have W:=q.size;refine⟨_,_,_,rfl,λA B C E Y w'=>∃a:Nat,Y=a/\a<=o/\A=o-a/\aZ i (((X.fr.due e).take a).map λf=>jv X.S self f) (.slice B C E) w',⟨_,0,rfl,Qj _,rfl,aZ.nil i⟩,?_⟩;rintro A B C E _ _ Z ⟨a,rfl,z,rfl,j⟩;have r:=j;obtain⟨a3,n1,c1,a4,D,he,g2,g3,g4,g5,g6,k⟩:=r
 cases he
 have H:=cu.ah y k;have b1:=k.size;refine an.dec (λb2=>?_) (λb3=>?_)
 ·obtain⟨P,s,d,rfl,b4,g,b5,a0⟩:=(U.ah k).at (i:=(a:Int)) oM oM
  rw[Qx]at g;refine⟨P,s,rfl,oM,oM,d,a0,λa6 a7=>?_⟩;have t:ai Z a6:=a7.af;have l:=cu.ah H t;refine⟨p,0,rfl,_,ae l.bf rfl,p,0,rfl,_,ae l.bf rfl,PC.ok (wJ (l.at' 3).1) ?_⟩;rintro _ b6 ⟨va,vn,vc,G,rfl,I,J,K⟩;have a8:=I.aC;have b7:=t.size;have b8:=K.size;refine⟨_,_,_,_,_,_,_,_,_,rfl,PA.mk λb9 L c0 a9=>?_⟩;refine aZ.push (m:=jv X.S self d) (E:=G) (j.ah ((t.then K).then L)) KK ⟨(I.ah L).row dC (by show X.S.vec.length*8<=aI;rw[X.S.bq];have:X.S.n<=64:=(l.at' 3).1.1.n;unfold aI;omega),dy _ _⟩ (λP b=>⟨by have:=J P b;omega,by have:=a8 P b;omega,λa1=>by have:=g2.aC P a1;have:=J P b;omega⟩) a9 (by rw[Q8,Qy];omega) λa' c' c2 a2 c3=>⟨_,_,_,rfl,_,?_,a+1,aq oM,oM,rfl,?_⟩
  ·omega
  ·rw[Qw,g,Q3];exact a2
 ·rw[Qz oM]at j
  exact Ok.mk ⟨F,j.out V W,⟨N,h,cls,H⟩,(q.mono λP _ b=>b.1).ah k,λP b=>.inl b⟩
def KL(a:bu w p F c self X):ZG 23 #[XL p] w (Ok (od aG 3 w X.S.vec)):=by
 obtain⟨g,h,cls,P⟩:=a;refine nQ ⟨p,0,rfl,_,ae P.bf rfl,PC.ok (kp (P.at' 3).1) ?_⟩;rintro _ i ⟨b,d,e,G,rfl,f⟩;exact⟨_,_,_,rfl,Ok.mk ⟨b,d,e,G,rfl,f⟩⟩
def sH(b:bu w p F c self X)(P:X.S.l.length<=20000000):ZG 14 #[XL p] w (Ok (od fY 55 w X.S.l)):=by
 obtain⟨g,h,cls,a⟩:=b;refine kQ ⟨p,0,rfl,_,ae a.bf rfl,PC.ok (p_ (a.at' 3).1 P) ?_⟩;rintro _ i ⟨d,e,f,G,rfl,P⟩;exact⟨_,_,_,rfl,Ok.mk ⟨d,e,f,G,rfl,P⟩⟩
end
def uv{d:au}:∀{a:List aj} {e:aj} {S':au} {l':List aj},ey d a=some (e,S',l')->l'.length+1=a.length
 |[],e,S',l',P=>by simp[ey]at P
 |x::a,e,S',l',P=>by
  unfold ey at P;split at P
  ·simp only[Q1,Prod.mk.injEq]at P
   obtain⟨-,-,rfl⟩:=P;rfl
  ·cases b:ey d a with
   |none=>rw[b]at P;cases P
   |some c=>
    rw[b]at P;simp only[Option.map_some,Q1,Prod.mk.injEq]at P;obtain⟨rfl,rfl,rfl⟩:=P;have:=uv (e:=c.1) (S':=c.2.1) (l':=c.2.2) b;simp only[Xq];omega
def uw:∀(k:Nat) (b:au) (a P:List aj),(dR k b a P).1.length+(dR k b a P).2.length=P.length+a.length
 |0,b,a,P=>rfl
 |k+1,b,a,P=>by
  unfold dR
  cases f:ey b a with
  |none=>rfl
  |some g=>
   obtain⟨c,d,e⟩:=g;have i:=uv f;have h:=uw k d e (P++[c]);show(dR k d e (P++[c])).1.length+(dR k d e (P++[c])).2.length=_;rw[h,QX,List.length_singleton];omega
def ux(a:au)(P:List aj):(bt a P).1.length+(bt a P).2.length<=P.length:=by
 unfold bt;dsimp only;rw[uw];have:=List.length_filter_le (λb=>(a.get (aR b)).isNone) P;simp only[ZQ];omega
structure EK (w:World) (wp most:Nat) (M0 D0 E:XN) (s:Nat) (S:au) (b:List aj) (oa:ZH) (on oc:Nat) (Lo:List (Bx aj)) (w1:World) (M Db Fs Do:XN):Prop where
 buf:fK w1 wp M Db most b
 set:cj w1 s Fs S
 La:∀x∈Lo,oe.In w1 Do x
 out:aO oe.jq 55 (λb=>aF oa=some b) w1 oa on oc Lo
 nM:∀b,M b->(M0 b\/w.heap.size<=b)/\¬Fs b
 nD:∀b,Db b->(D0 b\/w.heap.size<=b)/\¬Fs b
 nF:∀b,Fs b->w.heap.size<=b
 nO:∀b,Do b->(E b\/D0 b\/w.heap.size<=b)/\b<w1.heap.size/\¬M b/\¬Fs b
 nA:∀b,aF oa=some b->w.heap.size<=b/\¬M b/\¬Fs b/\¬Do b/\¬Db b
 af:ak M0 w w1
 cl:S.Cl
section
variable {w w' w0 w1 w2:World} {p wp most s on oc:Nat} {F E T Z M0 D0 M Db Fs Do:XN} {cls:Nat->Nat} {h:iL} {c:cy} {self:Int} {X:bD} {S:au} {b:List aj} {oa:ZH} {Lo:List (Bx aj)}
def fK.Mn(P:fK w p M Db most b):∀b,M b->b<w.heap.size:=by obtain⟨-,d,e,c,f,a⟩:=P;exact a.dM
def fK.Hp(P:fK w p M Db most b):∀b,Db b->b<w.heap.size/\¬M b:=by obtain⟨-,d,e,c,f,a⟩:=P;exact a.dD
def EK.ah(P:EK w wp most M0 D0 E s S b oa on oc Lo w1 M Db Fs Do)(a:ai w1 w2):EK w wp most M0 D0 E s S b oa on oc Lo w2 M Db Fs Do:=
 ⟨P.buf.ah a,P.set.ah a,λd e=>(P.La d e).af a λ_ _ h=>h,P.out.ah a,P.nM,P.nD,P.nF,λb c=>⟨(P.nO b c).1,by have:=(P.nO b c).2.1;have:=a.size;omega,(P.nO b c).2.2⟩,P.nA,P.af.ah a,P.cl⟩
def EK.add(a:EK w wp most M0 D0 E s S b oa on oc Lo w1 M Db Fs Do){i n:Nat}(o:Row aG 8 w1 f d i l.aN)(p:∀b,f b->b<w1.heap.size/\¬Fs b)(j:l.Ok)(y:S.l.length<=20000000):
  ZG 75 #[XL s,jf l d i n] w1 (Ok λk w'=>k= XH (S.add l).1/\∃g,EK w wp most M0 D0 E s (S.add l).2 b oa on oc Lo w' M Db g Do/\ak Fs w1 w'/\∀b,g b->Fs b\/w1.heap.size<=b):=by
 refine(sR a.set o p j oM).mono ?_;rintro _ w2 ⟨k,rfl,rfl,m,q,c⟩;have r:=a.buf.Mn;have t:=a.buf.Hp;have z:=a.af.size;have e:∀b,b<w1.heap.size->¬Fs b->¬m b:=λb A u h=>(c.new b h).elim u oM;refine Ok.mk ⟨rfl,m,⟨a.buf.af c.af (λb P=>(a.nM b P).2) λb P=>(a.nD b P).2,q,λv x=>(a.La v x).af c.af λb P=>(a.nO b P).2.2.2,a.out.af c.af λb P=>(a.nA b P).2.2.1,λb P=>⟨(a.nM b P).1,e b (r b P) (a.nM b P).2⟩,λb P=>⟨(a.nD b P).1,e b (t b P).1 (a.nD b P).2⟩,
  λb P=>(c.new b P).elim (a.nF b) λY=>oM,λb P=>⟨(a.nO b P).1,by have:=(a.nO b P).2.1;have:=c.af.size;omega,(a.nO b P).2.2.1,e b (a.nO b P).2.1 (a.nO b P).2.2.2⟩,λb P=>⟨(a.nA b P).1,(a.nA b P).2.1,e b (a.out.aC b P) (a.nA b P).2.2.1,(a.nA b P).2.2.2⟩,a.af.new c.af λb P=>.inr (a.nF b P),a.cl.add j⟩,c.af,c.new⟩
def EK.push{t:Program}(c:EK w wp most M0 D0 E s S b oa on oc Lo w1 M Db Fs Do)(y:iu t g 55 oe.jq.k 96){d:Bx aj}(z:oe.In w1 f d)(e:∀b,f b->(E b\/D0 b\/w.heap.size<=b)/\b<w1.heap.size/\¬M b/\¬Fs b/\aF oa≠some b)(A:w1.heap[a]? =some (.cells (aB d.x d.a d.n d.c).toArray 55 C))(Q:Lo.length<=1000000){u B:XR}(q:∀l p w' r,EK w wp most M0 D0 E s S b l (on+1) p (Lo++[d]) w' M Db Fs r->ak (λb=>aF oa=some b) w1 w'->(∀b,aF l=some b->aF oa=some b\/w1.heap.size<=b)->u (.slice l (on+1) p) w'):
  aE t (Builtin.append_ #[g,g] o #[.slice oa on oc,.slice (XM a) 1 1]) w1 u B:=by
 refine dP (c:=oe.jq) (x:=d) (D:=λ_=>False) c.out y A ⟨rfl,trivial⟩ (λb P=>P.elim) ba (by unfold maxLen;omega) λl p w2 R v i F=>?_;have I:=v.alone;have x:∀b,aF l=some b->aF oa=some b\/w1.heap.size<=b:=λb P=>(F b (v.self b P)).imp id λh=>h.resolve_left id;have T:=i.size;have z1:=c.af.size;have J:=c.buf.Mn;have K:=c.buf.Hp;have L:=c.set.aC;have nA:=c.nA;refine q l p w2 (λb=>Do b\/f b) ⟨c.buf.af i (λb P j=>(nA b j).2.1 P) λb P j=>(nA b j).2.2.2.2 P,c.set.af i λb P j=>(nA b j).2.2.1 P,λN m=>?_,I,c.nM,c.nD,c.nF,λb P=>?_,λb P=>?_,c.af.new i λb P=>.inr (nA b P).1,c.cl⟩ i x
 ·rcases Q6.1 m with m|m
  ·exact((c.La N m).af i λb P j=>(nA b j).2.2.2.1 P).mono λb P=>.inl P
  ·simp at m;subst m
   exact(z.af i λb P=>(e b P).2.2.2.2).mono λb P=>.inr P
 ·rcases P with P|P
  ·exact⟨(c.nO b P).1,by have:=(c.nO b P).2.1;omega,(c.nO b P).2.2⟩
  ·exact⟨(e b P).1,by have:=(e b P).2.1;omega,(e b P).2.2.1,(e b P).2.2.2.1⟩
 ·rcases x b P with H|H
  ·exact⟨(nA b H).1,(nA b H).2.1,(nA b H).2.2.1,λn=>n.elim (nA b H).2.2.2.1 λO=>(e b O).2.2.2.2 H,(nA b H).2.2.2.2⟩
  ·exact⟨oM,λk=>by have:=J b k;omega,λk=>by have:=L b k;omega,λk=>k.elim (λn=>by have:=(c.nO b n).2.1;omega) λn=>by have:=(e b n).2.1;omega,λk=>by have:=(K b k).1;omega⟩
def EK.wait(P:EK w wp most M0 D0 E s S b oa on oc Lo w1 M Db Fs Do){k p:Nat}(q:Row aG 8 w1 f d k l.aN)(r:∀b,f b->b<w1.heap.size)(t:l.Ok):
  ZG 159 #[XL wp,jf l d k p] w1 (Ok λm w'=>∃u,m= .bool u/\∃h i,EK w wp most M0 D0 E s S (eH most b l).2 oa on oc Lo w' h i Fs Do/\ak M w1 w'):=by
 refine(HY P.buf q r t).mono ?_;rintro _ w2 ⟨m,rfl,rfl,h,v,x,g,j,n⟩;have o:=P.set.aC;have A:=P.af.size;have B:=g.size;refine Ok.mk ⟨_,rfl,h,v,⟨x,P.set.af g λb a e=>(P.nM b e).2 a,λy z=>(P.La y z).af g λb a=>(P.nO b a).2.2.1,P.out.af g λb a=>(P.nA b a).2.1,λb a=>?_,λb a=>?_,P.nF,λb a=>⟨(P.nO b a).1,by have:=(P.nO b a).2.1;omega,λe=>?_,(P.nO b a).2.2.2⟩,λb a=>⟨(P.nA b a).1,λe=>?_,(P.nA b a).2.2.1,(P.nA b a).2.2.2.1,λe=>?_⟩,?_,P.cl⟩,g⟩
 ·rcases j b a with c|c
  ·exact P.nM b c
  ·exact⟨.inr oM,λe=>by have:=o b e;omega⟩
 ·rcases n b a with c|c
  ·exact P.nD b c
  ·exact⟨.inr oM,λe=>by have:=o b e;omega⟩
 ·rcases j b e with c|c
  ·exact(P.nO b a).2.2.1 c
  ·have:=(P.nO b a).2.1;omega
 ·rcases j b e with c|c
  ·exact(P.nA b a).2.1 c
  ·have:=P.out.aC b a;omega
 ·rcases n b e with c|c
  ·exact(P.nA b a).2.2.2.2 c
  ·have:=P.out.aC b a;omega
 ·exact P.af.new g λb a=>(P.nM b a).1
def EK.ready(P:EK w wp most M0 D0 E s S b oa on oc Lo w1 M Db Fs Do)(j:S.l.length<=19000000):
  ZG 160 #[XL wp,XL s] w1 (Ok λi w'=>∃c f g e,i= .slice c f g/\aO oe.jq 55 (λb=>aF c=some b) w' c f g e/\e.map (·.x)=(bt S b).1/\(∀h∈e,oe.In w' Db h)/\(∀b,aF c=some b->w1.heap.size<=b)/\
   EK w wp most M0 D0 E s S (bt S b).2 oa on oc Lo w' M Db Fs Do/\ak M w1 w'):=by
 refine(Du P.buf P.set P.cl j).mono ?_;rintro _ w2 ⟨i,rfl,c,f,g,e,rfl,k,l,m,n,o,d⟩;have r:=d.size;exact Ok.mk ⟨c,f,g,e,rfl,k,l,m,n,⟨o,P.set.af d λb a p=>(P.nM b p).2 a,λh q=>(P.La h q).af d λb a=>(P.nO b a).2.2.1,P.out.af d λb a=>(P.nA b a).2.1,P.nM,P.nD,P.nF,λb a=>⟨(P.nO b a).1,by have:=(P.nO b a).2.1;omega,(P.nO b a).2.2⟩,P.nA,P.af.new d λb a=>(P.nM b a).1,P.cl⟩,d⟩
end
section
variable {w w' w0 w1 w2:World} {p wp most s on oc:Nat} {F E T Z M0 D0 M Db Fs Do:XN} {cls:Nat->Nat} {h:iL} {c:cy} {self:Int} {X:bD} {S:au} {b:List aj} {oa:ZH} {Lo:List (Bx aj)} {evs:List aj} {ea:ZH} {en ec:Nat}
def AI(most:Nat)(P:List aj)(a:aj):(eH most P a).2.length<=P.length+1:=by
 unfold eH;split
 ·show P.length<=_;omega
 ·show(de a P).length<=_
  rw[(cW a P).length_eq];simp
def Mm(L:cu w F cls p h c self X)(e4:ky c self)(hr:Row fY 96 w E ea en evs)(A:∀b,E b->b<w.heap.size/\¬F b)(m3:evs.length<=1000)(hl:X.S.l.length<=18000000):
  ZG 98 #[XL p,.slice ea en ec] w (Ok λf1 w'=>∃oa on oc Lo U o Do,f1= .slice oa on oc/\aO oe.jq 55 (λb=>aF oa=some b) w' oa on oc Lo/\Lo.map (·.x)=(jV c X evs).1/\(∀P∈Lo,oe.In w' Do P)/\
   cu w' U o p h c self {X with waits:=(jV c X evs).2}/\cz F w U w'/\(∀b,Do b->b<w'.heap.size/\aF oa≠some b/\¬(U b/\o b=2))/\(∀b,aF oa=some b->w.heap.size<=b/\¬U b)/\(jV c X evs).1.length<=evs.length+256):=by
 obtain⟨m8,m9,n0⟩:=e4.bR;have e5:=L.aC;have i6:=L.Hb;obtain⟨hS,a0,hn⟩:=(show cj w h.sp (λb=>F b/\cls b=3) X.S/\X.S.Cl/\X.S.n=c.bR.toNat from L.at' 3)
 obtain⟨M0,D0,t,c1,a1⟩:=(show LQ w (λb=>F b/\cls b=5) h.wp c.buffer.toNat X.waits from L.at' 5)
 have f3:X.waits.length<=256:=Xx t.1.2.le t.1.1;have n1:=hr.len;refine lR (PC.ok (Hl (evs:=[]) L e4 (dy w (λ_=>False)) (λb d=>d.elim) bc) ?_);rintro _ w4 ⟨s,i7,rfl,i8,b1,k4⟩;have e6:dZ c X.S []=X.S:=(zS a0 hn []).trans rfl;have z4:=k4.size;have i9:(dZ c X.S []).Cl:=by rw[e6];exact a0
 have j0:(dZ c X.S []).l.length=X.S.l.length:=by rw[e6]
 have j1:EK w h.wp c.buffer.toNat M0 D0 E s (dZ c X.S []) X.waits none 0 0 [] w4 M0 D0 i7 (λ_=>False):=by
  have j2:=t.Mn;have e7:=t.Hp;refine⟨t.ah k4,i8,sM,(aO.nil w4).mono (λb d=>d.elim) (λb d=>(by cases d)),λb d=>⟨.inl d,λj=>by have:=j2 b d;have:=b1 b j;omega⟩,λb d=>⟨.inl d,λj=>by have:=(e7 b d).1;have:=b1 b j;omega⟩,b1,λb d=>d.elim,λb d=>(by cases d),ai.af k4,i9⟩
 have B:∀{w1:World},ak M0 w w1->w1.heap[p]? =some (.cells (h.cells c self) 99 (0,0)):=λ{w1} hk=>hk.get L.bf λl=>by
  have:=(c1 p l).2;rw[i6.2]at this;cases this
 have e8:∀b,E b->¬M0 b:=λb d l=>(A b d).2 (c1 b l).1;obtain⟨C,e9⟩:∃C,C=g_ c.buffer.toNat evs (dZ c X.S []) [] X.waits:=⟨_,rfl⟩
 have r:jV c X evs=uy (C.2.2.length+1) C.1 C.2.1 C.2.2:=by rw[e9];rfl
 refine⟨_,rfl,λH oa on oc I w'=>∃(e:Nat) (S:au) (b:List aj) (Lo:List (Bx aj)) (M Db Fs Do:XN),I=e/\e<=en/\H=en-e/\EK w h.wp c.buffer.toNat M0 D0 E s S b oa on oc Lo w' M Db Fs Do/\g_ c.buffer.toNat (evs.drop e) S (Lo.map (·.x)) b=C/\S.l.length<=X.S.l.length+Lo.length/\Lo.length<=e/\b.length<=256/\Lo.length+b.length<=X.waits.length+e,
  ⟨_,0,_,_,_,_,_,_,_,rfl,Qj _,rfl,j1,e9.symm,by simp[j0],sM,f3,sM⟩,?_⟩
 rintro H oa on oc _ _ f2 ⟨e,S,b,Lo,M,Db,Fs,Do,rfl,hj,rfl,j,u,V,f6,b3,f4⟩;have j3:=j.af.size;have j4:=j.out.len dC;refine an.dec (λj5=>?_) (λj6=>?_)
 ·obtain⟨P,i⟩:∃P,evs[e]? =some P:=⟨_,Qq oM⟩
  have a8:evs.drop e=P::evs.drop (e+1):=by
   rw[X4 oM]
   congr 1
   exact(Qv.1 i).2
  rw[a8]at u;obtain⟨gb,go,es,ha,j7,n3,d2,xa,xn,xc,rfl,d3,b4⟩:=(hr.af j.af e8).el e P i;refine⟨gb,go,ha,oM,oM,bl (es:=aB P xa xn xc) (k:=10) (aV _ _ _ _) rfl (λI ht=>by rw[Qx];exact d2 I ht) (PA.mk λn4 j8 n8 j9=>az (aV P xa xn xc) j9 rfl λk0 k1 n9 f5=>ar (aV P xa xn xc) f5 ?_)⟩;have a2:ai f2 k0:=j8.new k1 λb d=>.inr (by have d:b=f2.heap.size:=d;omega);have o0:=a2.size;have d4:∀b,E b->¬Fs b:=λb d l=>by have:=j.nF b l;have:=(A b d).1;omega
  refine PC.ok ((j.ah a2).add (d3.ah a2) (λb d=>⟨by have:=(A b d).1;omega,d4 b d⟩) b4 oM) ?_;rintro _ k2 ⟨rfl,N,J,a5,m4⟩;have o1:=a5.size;have b5:=j.set.aC;have v:=a5.get f5 λl=>by have:=b5 _ l;omega
  have f7:=S.xX P;have f8:g_ c.buffer.toNat (P::evs.drop (e+1)) S (Lo.map (·.x)) b=if(S.add P).1=0 then g_ c.buffer.toNat (evs.drop (e+1)) (S.add P).2 (Lo.map (·.x)++[P]) b else if(S.add P).1=16 then g_ c.buffer.toNat (evs.drop (e+1)) S (Lo.map (·.x)) b else g_ c.buffer.toNat (evs.drop (e+1)) S (Lo.map (·.x)) (eH c.buffer.toNat b P).2:=rfl
  rw[f8]at u;have a9:(S.add P).1≠0->(S.add P).2=S:=λW=>by
   rcases S.ic P with⟨-,f⟩|⟨f,-⟩
   ·exact f
   ·rw[f]at W;exact Zz rfl W
  refine⟨_,rfl,an.dJ (λq=>?_) (λq=>an.dJ (λd5=>?_) (λd5=>λk3 k5=>?_))⟩
  ·rw[Zx q]at u
   have c4:(S.add P).2.l.length<=S.l.length+1:=f7;refine⟨_,_,_,_,_,_,_,_,_,_,_,_,ae v rfl,ae v rfl,ae v rfl,ae v rfl,ae v rfl,ae v rfl,ae v rfl,ae v rfl,ae v rfl,ae v rfl,PA.mk λk6 d6 o2 k7=>?_⟩;have g0:oe.In k6 E ⟨P,xa,xn,xc⟩:=⟨((d3.ah a2).af a5 λb d=>d4 b d).ah d6,b4⟩
   have g1:=J.ah d6;refine g1.push uP g0 (λb d=>⟨.inl d,by have:=(A b d).1;have:=d6.size;omega,λl=>?_,λl=>by have:=J.nF b l;have:=(A b d).1;omega,λn=>by have:=(J.nA b n).1;have:=(A b d).1;omega⟩) k7 oM λa' c' o3 O g2 m5 _=>⟨_,_,_,rfl,_,oM,e+1,_,_,_,M,Db,N,O,aq oM,oM,rfl,g2,?_,?_,?_,b3,?_⟩
   ·rcases(J.nM b l).1 with f|f
    ·exact e8 b d f
    ·have:=(A b d).1;omega
   ·rw[Q3];exact u
   ·rw[QX,List.length_singleton];omega
   ·rw[QX,List.length_singleton];omega
   ·rw[QX,List.length_singleton];omega
  ·rw[Zq q,Zx d5]at u
   rw[a9 q]at J;exact⟨_,oM,e+1,S,b,Lo,M,Db,N,Do,aq oM,oM,rfl,J,u,V,oM,b3,oM⟩
  ·rw[Zq q,Zq d5]at u
   rw[a9 q]at J;have c5:ai k2 k3:=k5.af;have c9:=J.ah c5;refine⟨p,0,rfl,_,ae (B c9.af) rfl,ar (aV P xa xn xc) (c5.get v id) (PC.ok (c9.wait (((d3.ah a2).af a5 λb d=>d4 b d).ah c5) (λb d=>by have:=(A b d).1;have:=c5.size;omega) b4) ?_)⟩;rintro _ o4 ⟨I,rfl,M',b6,b7,m6⟩;have d7:=AI c.buffer.toNat b P;have g3:(eH c.buffer.toNat b P).2.length<=256:=Xx b7.buf.1.2.le b7.buf.1.1;exact⟨_,rfl,_,oM,e+1,S,_,Lo,M',b6,N,Do,aq oM,oM,rfl,b7,u,V,oM,g3,oM⟩
 have o5:e=evs.length:=oM
 rw[List.drop_eq_nil_of_le oM]at u;have d0:C=(S,Lo.map (·.x),b):=u.symm;rw[d0]at r;have b8:Lo.length+b.length<=evs.length+256:=oM
 refine⟨λH oa on oc w'=>∃(S:au) (b:List aj) (Lo:List (Bx aj)) (M Db Fs Do:XN) (k:Nat),H=b.length/\EK w h.wp c.buffer.toNat M0 D0 E s S b oa on oc Lo w' M Db Fs Do/\b.length<=k/\uy (k+1) S (Lo.map (·.x)) b=jV c X evs/\S.l.length<=X.S.l.length+Lo.length/\Lo.length+b.length<=evs.length+256,
  ⟨_,S,b,Lo,M,Db,Fs,Do,b.length,rfl,j,Q4 _,r.symm,V,b8⟩,?_⟩
 clear j u V f6 b3 f4 b8 j4 j3 d0 r
 rintro H oa on oc _ o6 ⟨S,b,Lo,M,Db,Fs,Do,k,rfl,j,hk,r,V,f4⟩;have o7:=j.af.size;refine⟨p,0,rfl,_,ae (B j.af) rfl,PC.ok (j.ready oM) ?_⟩;rintro _ o8 ⟨Y,n2,f9,Z,rfl,g4,d8,k8,g5,m,g6⟩;have o9:=g4.len dC;have d7:=ux S b;have g7:Z.length=(bt S b).1.length:=by rw[<-d8,Q8]
 have k9:uy (k+1) S (Lo.map (·.x)) b=if(bt S b).1=[]then(Lo.map (·.x),(bt S b).2)else uy k (ej (bt S b).1 S (Lo.map (·.x))).1 (ej (bt S b).1 S (Lo.map (·.x))).2 (bt S b).2:=rfl
 rw[k9]at r;have p0:=g6.size;refine⟨_,_,_,rfl,an.dJ (λq=>?_) (λq=>?_)⟩
 ·have g8:(bt S b).1=[]:=QW oM
  rw[Zx g8]at r;rw[<-r];have hM:=m.buf.Mn;have l0:=m.buf.Hp;obtain⟨U,o,b9,a3,l3,c2,-⟩:=L.dX bA (k:=5) (G':=λb=>M b\/Db b) (C2:=kj p (h.cells c self) h c {X with waits:=(bt S b).2} X.S.l) (m.af.mono λb _ d=>c1 b d)
   (λP i=>i.elim (λf=>(m.nM P f).1.imp (c1 P) id) λf=>(m.nD P f).1.imp (a1 P) id) (λP i=>i.elim (hM P) λf=>(l0 P f).1) ⟨M,Db,m.buf,λ_ h=>.inl h,λ_ h=>.inr h⟩ λe G hj hc=>by
    rcases e with _|_|_|_|_|_|_|e<;>first|exact hc|exact Zz rfl hj
  refine Ok.mk ⟨oa,on,oc,Lo,U,o,Do,rfl,m.out,rfl,m.La,b9,a3,λP i=>⟨(m.nO P i).2.1,λn=>(m.nA P n).2.2.2.1 i,λQ=>?_⟩,λP i=>⟨(m.nA P i).1,λQ=>?_⟩,by rw[Q8];omega⟩
  ·have d9:F P/\cls P=2:=by
    have:=congrFun (c2 2 dC) P;exact this▸Q
   rcases(m.nO P i).1 with f|f|f
   ·exact(A P f).2 d9.1
   ·have:=(a1 P f).2;rw[d9.2]at this;cases this
   ·have:=e5 P d9.1;omega
  ·rcases l3 P Q with f|f
   ·have:=e5 P f.1;have:=(m.nA P i).1;omega
   ·exact f.elim (m.nA P i).2.1 (m.nA P i).2.2.2.2
 ·have W:(bt S b).1≠[]:=λn=>by rw[n,ZQ]at g7;omega
  rw[Zq W]at r;obtain⟨k',rfl⟩:∃k',k=k'+1:=⟨k-1,by
   have:0<b.length:=by
    have:=List.length_pos_iff.2 W;omega
   omega⟩
  obtain⟨av,e0⟩:∃av,av=ej (bt S b).1 S (Lo.map (·.x)):=⟨_,rfl⟩
  rw[<-e0]at r;have g9:Lo.length+Z.length+(bt S b).2.length<=evs.length+256:=oM
  obtain⟨b2,b3⟩:∃b2,b2=(bt S b).2:=⟨_,rfl⟩
  rw[<-b3]at r m g9 d7;have e7:=m.buf.Hp;obtain⟨x,hR⟩:∃x,x=(bt S b).1:=⟨_,rfl⟩
  rw[<-hR]at d8 g7 d7 e0;have h0:∀a,aF Y=some a->¬Fs a/\aF oa≠some a:=λa g=>by
   have f:=g5 a g;exact⟨λl=>by have:=j.set.aC a l;omega,λn=>by have:=j.out.aC a n;omega⟩
  have p1:∀a,aF Y=some a->¬Db a:=λa g l=>by
   have f:=g5 a g;have h6:=(j.buf.Hp a l).1;omega
  refine⟨λH oa on oc I w'=>∃(e:Nat) (S:au) (Lo:List (Bx aj)) (Fs Do:XN),I=e/\e<=n2/\H=n2-e/\EK w h.wp c.buffer.toNat M0 D0 E s S b2 oa on oc Lo w' M Db Fs Do/\ej (x.drop e) S (Lo.map (·.x))=av/\S.l.length<=X.S.l.length+Lo.length/\Lo.length+(n2-e)+b2.length<=evs.length+256/\aO oe.jq 55 (λb=>aF Y=some b) w' Y n2 f9 Z/\(∀P∈Z,oe.In w' Db P)/\∀a,aF Y=some a->¬Fs a/\aF oa≠some a,
   ⟨_,0,S,Lo,Fs,Do,rfl,Qj _,rfl,m,e0.symm,V,oM,g4,k8,h0⟩,?_⟩
  rintro H c3 h1 h5 _ _ h2 ⟨e,y,b0,l4,h3,rfl,hj,rfl,K,R,l5,b8,c4,h4,e2⟩;have p2:=K.af.size;have m7:=K.out.len dC;refine an.dec (λj5=>?_) (λj6=>?_)
  ·obtain⟨P,i⟩:∃P,Z[e]? =some P:=⟨_,Qq oM⟩
   have h7:x[e]? =some P.x:=by rw[<-d8,Q9,i];rfl
   have a8:x.drop e=P.x::x.drop (e+1):=by
    rw[X4 (Qv.1 h7).1]
    congr 1
    exact(Qv.1 h7).2
   have h8:ej (P.x::x.drop (e+1)) y (b0.map (·.x))=if(y.add P.x).1=0 then ej (x.drop (e+1)) (y.add P.x).2 (b0.map (·.x)++[P.x])else ej (x.drop (e+1)) (y.add P.x).2 (b0.map (·.x)):=rfl
   rw[a8,h8]at R;have d1:=h4 P (QZ i);obtain⟨gb,go,es,ha,j7,p3,d2,rfl,-⟩:=(c4.row (bytes:=96) dC ba).el e P i;refine⟨gb,go,ha,oM,oM,bl (es:=aB P.x P.a P.n P.c) (k:=10) (aV _ _ _ _) rfl (λI ht=>by rw[Qx];exact d2 I ht) (PA.mk λp4 l6 p5 l7=>az (aV P.x P.a P.n P.c) l7 rfl λl8 l9 p6 h9=>ar (aV P.x P.a P.n P.c) h9 ?_)⟩;have a4:ai h2 l8:=l6.new l9 λb d=>.inr (by have d:b=h2.heap.size:=d;omega);have p7:=a4.size;have m0:=K.buf.Hp;have i0:=c4.aC;refine PC.ok ((K.ah a4).add (d1.af a4 λ_ _ h=>h).1 (λa g=>⟨by have:=(m0 a g).1;omega,(K.nD a g).2⟩) d1.2 oM) ?_;rintro _ m1 ⟨rfl,e3,T,a6,i1⟩;have p8:=a6.size;have b5:=K.set.aC;have z:=a6.get h9 λl=>by have:=b5 _ l;omega
   have f7:=y.xX P.x;have c6:=(c4.ah a4).af a6 λa g=>(e2 a g).1;have c7:∀a∈Z,oe.In m1 Db a:=λa g=>((h4 a g).af a4 λ_ _ h=>h).af a6 λc8 Q=>(K.nD c8 Q).2;have a7:∀a,aF Y=some a->¬e3 a/\aF c3≠some a:=λa g=>⟨λl=>(i1 a l).elim (e2 a g).1 λf=>by have:=i0 a g;omega,(e2 a g).2⟩
   refine⟨_,rfl,an.dJ (λq=>?_) (λq=>?_)⟩
   ·rw[Zx q]at R
    refine⟨_,_,_,_,_,_,_,_,_,_,_,_,ae z rfl,ae z rfl,ae z rfl,ae z rfl,ae z rfl,ae z rfl,ae z rfl,ae z rfl,ae z rfl,ae z rfl,PA.mk λp9 c0 q0 m2=>?_⟩;have i2:=T.ah c0;have e1:=T.buf.Hp;have q1:=c0.size;refine i2.push uP ((c7 P (QZ i)).af c0 λ_ _ h=>h) (λa g=>⟨.inr (T.nD a g).1,by have:=(e1 a g).1;omega,(e1 a g).2,(T.nD a g).2,λn=>(T.nA a n).2.2.2.2 g⟩) m2 oM λa' c' q2 O i3 f0 i4=>⟨_,_,_,rfl,_,oM,e+1,_,_,e3,O,aq oM,oM,rfl,i3,?_,?_,?_,(c6.ah c0).af f0 λa g n=>(a7 a g).2 n,λa g=>((c7 a g).af c0 λ_ _ h=>h).af f0 λc8 Q n=>(T.nA c8 n).2.2.2.2 Q,λa g=>⟨(a7 a g).1,λn=>?_⟩⟩
    ·rw[Q3];exact R
    ·rw[QX,List.length_singleton];omega
    ·rw[QX,List.length_singleton];omega
    ·rcases i4 a n with f|f
     ·exact(a7 a g).2 f
     ·have:=c6.aC a g;omega
   ·rw[Zq q]at R
    have a9:(y.add P.x).2.l.length<=y.l.length:=by
     rcases y.ic P.x with⟨-,f⟩|⟨f,-⟩
     ·rw[f];exact Q4 _
     ·rw[f]at q;exact Zz rfl q
    exact⟨_,oM,e+1,_,b0,e3,h3,aq oM,oM,rfl,T,R,oM,oM,c6,c7,a7⟩
  ·rw[List.drop_eq_nil_of_le oM]at R
   have i5:av=(y,b0.map (·.x)):=R.symm;rw[i5]at r;have q3:0<x.length:=by have:=List.length_pos_iff.2 W;rw[<-hR]at this;exact this
   exact⟨b2.length,oM,y,b2,b0,M,Db,l4,h3,k',rfl,K,oM,r,l5,oM⟩

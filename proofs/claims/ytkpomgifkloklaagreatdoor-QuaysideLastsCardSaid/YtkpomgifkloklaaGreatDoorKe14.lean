import Derived.Test.YtkpomgifkloklaaGreatDoorYeCodeR
set_option maxHeartbeats 4000000
set_option linter.all false
set_option maxRecDepth 100000
open Go.IntKind renaming wrap→PP
namespace Go.Proofs.YtkpomgifkloklaaGreatDoor
open Go.aw
def jV(D:ak)(n:ByteArray):Bool:=decide (n=aQ)||((ig n).2&& !decide ((ig n).1∈(dI D).getD []))
def GO(D:ak):List ByteArray:=D.list.filter (jV D)
def Ll(D:ak)(n:List ByteArray):ak:=n.foldl (λD P=>(D.delete P).2) D
def dw(D:ak):ak:=Ll D (GO D)
def Bq(n:List ByteArray):List (List Value):=n.map λP=>[.string P]
def Sd(D:ak)(n:List (List Value)):ak:=n.foldl (λD P=>match P with
 |[.string a]=>(D.delete a).2
 |_=>D) D
def EO:∀(n:List ByteArray) (D:ak),Sd D (Bq n)=Ll D n
 |[],D=>rfl
 |s::n,D=>EO n (D.delete s).2
def Pf(D:ak)(n:List (List Value))(P:ByteArray):Sd D (n++[[.string P]])=((Sd D n).delete P).2:=by
 unfold Sd;rw[List.foldl_append];rfl
def EP(n:List ByteArray)(P:ByteArray):Bq (n++[P])=Bq n++[[.string P]]:=by unfold Bq;simp
variable{e:Int}{s:List Int}{a c:Nat}{d:be}{b:World}
def DI{D:ac}(P:Row aO 8 b D d a s):
  bn 246 #[.slice d a c,WP e] b (Ok λp f=>(∃l:Int,p= WP l/\(0<=l↔e∈s))/\b=f):=by
 have w:=P.len;have q:=P.eO;unfold aP at q;refine oY ⟨λm i f=>∃n:Nat,i=n/\n<=a/\m=a-n/\e∉s.take n/\b=f,⟨_,0,rfl,Qj _,rfl,sM,rfl⟩,?_⟩;rintro m i _ _ ⟨n,rfl,x,rfl,g,rfl⟩;refine al.dec (λr=>?_) (λr=>?_)
 ·obtain⟨t,j,y,rfl,o,_,u⟩:=P.nK (i:=n) oM
  refine⟨t,j,rfl,oM,oM,_,u,al.eT (λk=>?_) (λk=>?_)⟩
  ·exact Ok.mk ⟨⟨_,rfl,λ_=>k▸QZ o,λ_=>oM⟩,rfl⟩
  ·refine⟨_,oM,n+1,an oM,oM,rfl,?_,rfl⟩
   rw[Qw,o];intro v;rcases Q6.1 v with h|h
   ·exact g h
   ·simp at h;exact k h
 ·rw[Qz oM]at g
  exact Ok.mk ⟨⟨_,rfl,λh=>oM,λh=>Zz h g⟩,rfl⟩
def xD{D:ac}(n:Row aO 8 b D d a s):
  bn 183 #[.slice d a c,WP e] b (Ok λP f=>P= .bool (decide (e∈s))/\b=f):=by
 refine my (PC.ok (DI n) ?_);rintro _ _ ⟨⟨h,rfl,g⟩,rfl⟩;exact⟨_,rfl,Ok.mk ⟨by rw[decide_eq_decide.2 g],rfl⟩⟩
section
variable {w0 w w1 w':World} {p:Nat} {D D':ak} {X Y:ac}
def bb.lt(P:bb w0 w p D X):∀n,X n->n<w.heap.size:=by obtain⟨b,c,d,e,a⟩:=P;exact a
def Pg(h:bb w0 w p D X)(s:qX w0):bn 123 #[RK p] w (Ok λt w'=>∃i j c d e,∃Y G:ac,t= .func (.func 180) #[] #[RK i,RK j]/\
  (∃f k,w'.heap[i]? =some (.cells #[RK p] f k))/\(∃f k,w'.heap[j]? =some (.cells #[.slice c d e] f k))/\aS aO 3 G w' c d e ((dI D).getD [])/\Y i/\Y j/\(∀P,G P->Y P)/\bb w0 w' p D (λP=>X P\/Y P)/\ai w w'):=by
 have A:=h.gr.size;refine zK (PA.mk λw1 m B o=>⟨_,ae o rfl,PC.ok ((h.add m (Y:=(·=w.heap.size)) λP n=>⟨oM,oM⟩).iY s) ?_⟩);rintro _ a ⟨c,d,e,G,rfl,q,C,u,l⟩;refine⟨_,_,_,_,rfl,PA.mk λE g F v=>PS.mk v sM λH b I x=>Ok.mk ⟨w.heap.size,a.heap.size,c,d,e,λP=>(P=w.heap.size\/G P)\/P=a.heap.size,G,rfl,?_⟩⟩;have J:=l.size;have y:w.heap.size≠a.heap.size:=oM
 have r:∀P,G P->P<a.heap.size:=q.aE;have z:=u.add g (Y:=(·=a.heap.size)) λP n=>⟨oM,oM⟩
 refine⟨⟨_,_,b.get (g.get (l.get o id) id) y⟩,⟨_,_,x⟩,(q.af g).keep b (λP n f=>by have:=r P n;omega),.inl (.inl rfl),.inr rfl,λP n=>.inl (.inr n),?_,?_⟩
 ·refine z.fv b (λP n=>⟨.inr n,oM⟩) λP n=>⟨.inl ?_,?_⟩
  ·rcases n with n|(n|n)|n
   ·exact .inl (.inl (.inl n))
   ·exact .inl (.inl (.inr n))
   ·exact .inl (.inr n)
   ·exact .inr n
  ·have:=b.size
   rcases n with n|(n|n)|n
   ·have:=h.lt P n;omega
   ·omega
   ·have:=r P n;omega
   ·omega
 ·exact aj.new ((m.then l).then g) b λP n=>.inr oM
def CJ(w0 P:World)(p:Nat)(D:ak)(d:ac)(a:World×(ac))(b:List (List Value))(c:World):Prop:=
 bb w0 c p (Sd D b) (λn=>(d n\/(P.heap.size<=n/\n<P.heap.size+2))\/a.2 n)/\aj (dY d) P c/\aj (dY a.2) a.1 c/\∀n,a.2 n->P.heap.size+2<=n
variable {w5:World} {X5:ac} {s:World×(ac)} {pre:List (List Value)} {A B:World}
def CJ.af(n:CJ w0 w5 p D X5 s pre A)(P:ai A B):CJ w0 w5 p D X5 s pre B:=⟨n.1.af P,n.2.1.af P,n.2.2.1.af P,n.2.2.2⟩
def CJ.fv(d:ai w0 w5)(e:CJ w0 w5 p D X5 s pre A)(f:qY (w5.heap.size+1) A B):CJ w0 w5 p D X5 s pre B:=by
 obtain⟨b,g,h,c⟩:=e;obtain⟨a,i⟩:=f;have:=d.size;refine⟨b.fv a (λn P=>⟨.inl (.inr ⟨oM,oM⟩),oM⟩) λn P=>⟨.inl P,by rw[i];exact b.lt n P⟩,g.new a λn P=>.inr oM,h.new a λn P=>.inl λj=>?_,c⟩;have:=c n j;omega
def IX{z C:Nat}{G:ac}{R:bc}(X:Laid w0)(a5:∀n,X5 n->n<w5.heap.size)(o:∃q r,w5.heap[a]? =some (.cells #[RK p] q r))(Y:X5 a)(t:∃q r,w5.heap[c]? =some (.cells #[.slice d z C] q r))(Z:X5 c)(hl:aS aO 3 G w5 d z C ((dI D).getD []))(hG:∀n,G n->X5 n)(E:∀A B,R A->aj (oZ w5) A B->R B)(F:∀s pre u A,CJ w0 w5 p D X5 s pre A->R A->uj [.string ⟨#[]⟩] u->kV LL (w5.heap.size+1) u A λn k=>n=true/\CJ w0 w5 p D X5 s (pre++[u]) k/\R k)(v:CJ w0 w5 p D X5 (w5,no) [] w1)(a0:R w1)(a1:w5.heap.size+2<=w1.heap.size):
  bn 180 #[.func (.yield (w5.heap.size+1)) #[] #[],RK a,RK c] w1 (Ok λa4 w'=>R w'/\∃s,CJ w0 w5 p D X5 s (Bq (GO D)) w'):=by
 obtain⟨e2,f2,o⟩:=o;obtain⟨e4,f4,t⟩:=t;have H:bb w0 w1 p D _:=v.1;refine uk ⟨_,ae (v.2.1.get o λb=>b Y) rfl,PC.ok H.list ?_⟩;rintro _ w ⟨a8,I,c8,J,rfl,K,a2,h8,L⟩;have a6:D.list.length<=64:=by rw[o_];exact H.ok.many
 have a7:=K.len dC;have a3:CJ w0 w5 p D X5 (w,J) [] w:=⟨h8.mono λn e=>e.elim (λf=>.inl (.inl f)) .inr,v.2.1.af L,aj.refl _,λn e=>Xx a1 (a2 n e)⟩
 refine⟨_,_,_,rfl,λM N w'=>∃P:Nat,N=P/\P<=I/\M=I-P/\CJ w0 w5 p D X5 (w,J) (Bq ((D.list.take P).filter (jV D))) w'/\R w',⟨_,0,rfl,Qj _,rfl,a3,E _ _ a0 (ai.keep L)⟩,?_⟩;rintro M N _ a9 ⟨P,rfl,hj,rfl,i,O⟩;refine al.dec (λb0=>?_) (λb1=>?_)
 ·obtain⟨n,x,s,rfl,Q,_,j⟩:=((K.keep i.2.2.1 λn e b=>b e).row (bytes:=16) dC cw).nK (i:=P) oM
  refine⟨n,x,rfl,oM,oM,_,j,PC.ok (Br (X.af i.1.gr)) ?_⟩;rintro _ b2 ⟨rfl,S⟩;have h:=i.af S;have l:=E _ _ O (ai.keep S);have T:uj [.string ⟨#[]⟩] [.string s]:=λφ f=>f s;have U:jV D s=true->(D.list.take (P+1)).filter (jV D)=(D.list.take P).filter (jV D)++[s]:=λf=>by
   rw[Qw,Q,List.filter_append];simp[f]
  have V:jV D s=false->(D.list.take (P+1)).filter (jV D)=(D.list.take P).filter (jV D):=λf=>by
   rw[Qw,Q,List.filter_append];simp[f]
  refine⟨_,_,rfl,al.ZC (λhe=>?_) (λW=>al.mk (λm=>?_) (λm=>?_))⟩
  ·refine⟨_,rfl,(F _ _ _ _ h l T).mono ?_⟩
   rintro _ k ⟨rfl,g,y⟩;refine al.ff rfl ⟨_,?_,P+1,an oM,oM,rfl,?_,y⟩
   ·omega
   ·rw[U (by unfold jV;rw[show s=aQ from he];simp),EP];exact g
  ·refine⟨_,_,_,ae (h.2.1.get t λb=>b Z) rfl,PC.ok (xD ((hl.keep h.2.1 λn e b=>b (hG n e)).row (bytes:=8) dC (by have:=ER (D:=D);unfold aP;omega))) ?_⟩
   rintro _ _ ⟨rfl,rfl⟩;refine⟨_,rfl,al.mk (λj=>?_) (λj=>?_)⟩
   ·refine⟨_,rfl,(F _ _ _ _ h l T).mono ?_⟩
    rintro _ k ⟨rfl,g,y⟩;refine al.ff rfl ⟨_,?_,P+1,an oM,oM,rfl,?_,y⟩
    ·omega
    ·rw[U (by unfold jV;rw[m,j];simp),EP];exact g
   ·refine⟨_,?_,P+1,an oM,oM,rfl,?_,l⟩
    ·omega
    ·rw[V (by unfold jV;rw[m,j,Xv (show¬s=aQ from W)];rfl)];exact h
  ·refine⟨_,?_,P+1,an oM,oM,rfl,?_,l⟩
   ·omega
   ·rw[V (by unfold jV;rw[m,Xv (show¬s=aQ from W)];rfl)];exact h
 ·rw[Qz oM]at i
  exact Ok.mk ⟨O,_,i⟩
def Ph(r:Laid w0)(b:bb w0 w p D X):bn 79 #[RK p] w (Ok λh w'=>h= .tuple #[]/\bb w0 w' p (dw D) X/\aj (dY X) w w'):=by
 have a6:=b.gr.size;refine zM (PA.mk λw1 t s1 u=>⟨_,ae u rfl,PC.ok (Pg (b.add t (Y:=(·=w.heap.size)) λn P=>⟨oM,oM⟩) r.qp) ?_⟩);rintro _ w5 ⟨b2,b4,a0,a1,a2,Y,G,rfl,C,E,F,H,I,J,i,j⟩;have K:=j.get u id;have k:=i.gr;have z5:=j.size;refine⟨_,rfl,180,_,rfl,kR,World×(ac),(w5,no),CJ w0 w5 p D λn=>(X n\/n=w.heap.size)\/Y n,λ_ _ _=>False,λ_ _=>True,λl=>l=Bq (GO D),?_,λs pre A B c d=>c.fv k d,λ_ _ _ _ b _=>b,?_,?_,?_,trivial⟩
 ·intro L m s6
  exact⟨(i.add m (Y:=λn=>w5.heap.size<=n/\n<w5.heap.size+2) λn P=>⟨P.1,oM⟩).mono λn P=>P.elim id False.elim,ai.keep m,ai.keep m,λn P=>P.elim⟩
 ·intro s pre A c a7 a8 _
  refine⟨aj.refl _,λa9 d=>?_⟩;obtain⟨e,g,v,x⟩:=c.fv k d;refine⟨_,ae (g.get K λa=>a (.inl (.inr rfl))) rfl,PC.ok e.delete ?_⟩;rintro _ b0 ⟨rfl,M,o⟩;refine⟨_,rfl,o.mono λn _ a=>⟨λN=>a (.inl (.inr ⟨oM,oM⟩)),λN=>a (.inl (.inr ⟨oM,oM⟩))⟩,?_⟩;show CJ _ _ _ _ _ _ _ _;refine⟨by rw[Pf];exact M,g.new o λn a=>.inl λf=>a (.inl (.inl f)),v.new o λn a=>.inl λf=>a (.inr f),x⟩
 ·intro O Rx Q _ R S L T y
  refine Calls.mono (IX (R:=O) r i.lt C (.inr H) E (.inr I) F (λn P=>.inr (J n P)) Q (λs pre U A c V d=>(S s pre U A c V d trivial).mono ?_) T y (R _ y)) ?_
  ·rintro n W (b|⟨-,a3,b,-⟩)
   ·exact b
   ·exact b.elim
  ·rintro _ W ⟨h,rfl,Z,s,q⟩
   exact⟨⟨h,rfl⟩,.inl ⟨Z,s,_,q,rfl⟩⟩
 ·rintro s _ A ⟨e,g,v,x⟩ rfl hm
  refine⟨hm,λb1 ⟨z,a5⟩=>Ok.mk ⟨rfl,?_,?_⟩⟩
  ·rw[EO]at e
   exact(e.fv z (λn P=>⟨.inl (.inr ⟨oM,oM⟩),by have:=k.size;omega⟩) λn P=>⟨.inl P,by rw[a5];exact e.lt n P⟩).mono λn P=>.inl (.inl (.inl (.inl P)))
  ·exact aj.new (aj.new (ai.keep (t.then j)) g λn a=>.inl λf=>a (.inl (.inl f))) z λn P=>.inr oM
end
end Go.Proofs.YtkpomgifkloklaaGreatDoor
namespace Go.Proofs
open Go.RowKit Go.Maps Go.Sort Go.Shelf
def Tryz.XF(b:Nat):AnyZI.SortsIn Tryz.prog Tryz.zq Fence.wide b:=
 ⟨λaI P n c a d e f=>callsIn_wide.2 (AnyM.slices_Sort_int Tryz.xd aI P n c a d e f),
  λg n a=>callsIn_wide.2 (AnyM.slices_Sort_int_none Tryz.xd g n a)⟩
end Go.Proofs
namespace Go.Proofs.YtkpomgifkloklaaGreatDoor
section
open Go.aw
open Go.RowKit Go.Maps Go.Sort Go.Shelf
def xd(n:List Int):List Int:=n.mergeSort (λP a=>decide (P<=a))
variable{g2:List (Int×Value)}{a c:Nat}{F:Nat×Nat}{g:TypeId}{b:World}
def Ax(w:bX b a (Value.int .i64) g2)(H:∀f∈g2,aH f.1)(x:g2.length*8<=aP)(y:b.heap[c]? =some (.cells #[.map (some a)] g F)):
  bn 166 #[.func (.func 224) #[] #[RK c]] b
   (Ok λp z=>HW b 3 (xd (g2.map (·.1))) p z):=by
 unfold aP at x;obtain⟨d,h,I,l,J,K⟩:=w.at';have L:Tryz.prog.underlying 3=some (.int .i64):=Tryz.underlying3;have M:d.size=g2.length:=by have:=Zj List.length l;simpa using this
 have N:∀n:Int,aH n->(Lit.int .i64 n).wf=true:=λn i=>by unfold aH at i;simp[Lit.wf,IntKind.min,IntKind.max,IntKind.signed,IntKind.bits];omega
 have A:∀P∈d.toList,∃n,P.key=Value.int .i64 n/\aH n:=λP e=>by
  have O:(P.key,P.val)∈g2.map (λf=>(Value.int .i64 f.1,f.2)):=by rw[<-l];exact Xk.2 ⟨P,e,rfl⟩
  obtain⟨f,Q,R⟩:=Xk.1 O;exact⟨f.1,(Prod.mk.inj R).1.symm,H f Q⟩
 have B:∀P∈d.toList,∀n,P.key=Value.int .i64 n->aH n->WideElems.rd LL 3 (λ_=>some ((.nil:DataW Unit),[])) P=some (.int .i64 n,.nil):=λP _ n i j=>by
  simp[WideElems.rd,i,Maps.keyOf_int_mk L (N n j)]
 have S:WideElems.Fit LL 3 (λ_=>some ((.nil:DataW Unit),[])) d h:=by
  refine⟨by unfold maxLen;omega,⟨J,K,?_⟩,λP e=>?_⟩
  ·have:d.toList.map (·.key)=(g2.map (·.1)).map (Value.int .i64):=by
    have:=Zj (List.map (λq:Value×Value=>q.1)) l;simpa[Function.comp_def]using this
   rw[this];exact List.pairwise_map.2 (List.Pairwise.imp (λT=>by simpa using T) w.tidy)
  ·obtain⟨n,i,j⟩:=A P e
   exact⟨_,B P e n i j⟩
 have U:b.ownsMap LL 3 (λ_=>some ((.nil:DataW Unit),[])) a d.size (.map ((d.toList.map (WideElems.rg LL 3 (λ_=>some ((.nil:DataW Unit),[])))).foldr DataW.insert [])):=
  ⟨d,h,I,S,Q4 _,rfl⟩
 have C:Maps.size (.map ((d.toList.map (WideElems.rg LL 3 (λ_=>some ((.nil:DataW Unit),[])))).foldr DataW.insert []))=g2.length:=by
  show(List.foldr DataW.insert [] _).length=_;rw[(WideShapes.sorted_perm _).length_eq];simp[M]
 have V:(intKeys (.map ((d.toList.map (WideElems.rg LL 3 (λ_=>some ((.nil:DataW Unit),[])))).foldr DataW.insert []))).Perm (g2.map (·.1)):=by
  refine(List.Perm.map (λf:Lit×DataW Unit=>Go.intOf f.1) (WideShapes.sorted_perm _)).trans ?_;have:(d.toList.map (WideElems.rg LL 3 (λ_=>some ((.nil:DataW Unit),[])))).map (λf=>Go.intOf f.1)=g2.map (·.1):=by
   have W:d.toList.map (λP=>match P.key with| .int _ n=>n|_=>0)=g2.map (·.1):=by
    have:=Zj (List.map (λq:Value×Value=>match q.1 with| .int _ n=>n|_=>0)) l;simpa[Function.comp_def]using this
   rw[<-W,List.map_map];refine List.map_congr_left λP e=>?_;obtain⟨n,i,j⟩:=A P e;simp[WideElems.rg,B P e n i j,i,Go.intOf]
  rw[this]
 have X:SeqGives Fence.wide 1 LL 224 #[RK c] encZ (λk=>k.Perm (intKeys _)) (Maps.size _) b:=
  AnyZI.keys_gives (ρ:=Tryz.F_) {Tryz.YT with} Fence.wide _ trivial rfl oM c a d.size _ b (az y) (ae y rfl) U
 have Y:=AnyZI.sorted_in Tryz.VK Fence.wide 4 trivial trivial trivial trivial rfl oM (Tryz.XF _) (enters_of Tryz.func223 kR rfl) 224 #[RK c] trivial
  (enters_of Tryz.func224 kR rfl) _ _ (by rw[C];unfold maxLen;omega) (by rw[C];exact x) b X
 refine((callsIn_wide (n:=4)).1 Y).mono ?_;rintro P z ⟨p,k,rfl,Z,m,a5,r⟩;have E:k.mergeSort (λn a0=>decide (n<=a0))=xd (g2.map (·.1)):=mergeSort_of_perm_i (Z.trans V);have a6:k.length=(xd (g2.map (·.1))).length:=by rw[<-E];simp
 rw[E]at m;have hv:∃s t,p= .slice s k.length t:=by
  rcases m.2 with⟨rfl,h0⟩|⟨g',u,v,rfl,_⟩
  ·exact⟨none,0,by rw[h0]⟩
  ·exact⟨_,_,rfl⟩
 obtain⟨s,t,rfl⟩:=hv;refine Ok.mk ⟨s,_,t,rfl,⟨ownsRow_base_a m (Qj _)⟩,aj.It r,λa1 o=>?_⟩;rcases m.2 with⟨e,_⟩|⟨g',u,v,e,a7,_⟩
 ·simp only[XX]at e
  rw[e.1]at o;cases o
 ·simp only[XX]at e
  rw[e.1]at o;simp only[aI,Q1]at o;omega
end
section
open Go.aw
structure kQ where
 dj:Int
 asked:List (Int×Int)
 heard:List (Int×List Int)
 deriving DecidableEq
def isI(n:Value)(P:Int):Prop:=n= WP P
def QM(d:World)(e:ac)(f:Value)(a:List Int):Prop:=
 ∃n P b,f= .slice n P b/\Own d 3 1 n P b (ints a)/\P*8<=aP/\(∀g∈a,aH g)/\∀c,aI n=some c->e c
def QM.keep{S b F':ac}{a e:World}{f:Value}{g:List Int}(c:QM a b f g)(l:aj S a e)(m:∀n,b n->n<a.heap.size->(∃h,a.heap[n]? =some h/\∀i j,h≠.map i j)->¬S n)(o:∀n,b n->F' n):QM e F' f g:=by
 obtain⟨p,q,r,rfl,d,P,s,k⟩:=c;refine⟨p,q,r,rfl,d.keep l (dB.2 λn P=>?_),P,s,λn P=>o n (k n P)⟩;refine m n (k n P) (d.lt P) ?_;rcases d.cases with⟨rfl,_⟩|⟨v,t,rfl,u,_⟩
 ·cases P
 ·simp only[aI,Q1]at P
  subst P;exact⟨_,u,λi j c=>by cases c⟩
structure eB (w:World) (p:Nat) (F:ac) (T:kQ):Prop where
 body:∃ra rh la lh,w.heap[p]? =some (.cells #[WP T.dj,.map (some ra),.map (some rh)] 184 (0,0))/\bX w ra (Value.int .i64) la/\bX w rh (Value.int .i64) lh/\
  fT isI la T.asked/\fT (QM w F) lh T.heard/\F ra/\F rh/\ra≠rh
 self:F p
 aE:∀b,F b->b<w.heap.size
 KI:Tidy T.asked
 tJ:∀q∈T.asked,aH q.1
variable{Y o:Array Value}{B:ba}{A:FuncId}{e r:Int}{h7:List (Int×List Int)}{g2:List (Int×Value)}{b2 s:List Int}{I a c i p:Nat}{f:ac}{d v:be}{b k:World}{b6:kQ}
def eB.keep{S e:ac}(n:eB b a e b6)(c:aj S b k)(d:∀P,e P->¬S P):eB k a e b6:=by
 obtain⟨i,j,l,m,o,p,q,r,s,g,h,t⟩:=n.body;exact⟨⟨i,j,l,m,c.get o (d _ n.self),p.keep c (d _ g),q.keep c (d _ h),r,s.mono λv w u=>u.keep c (λP f _ _=>d P f) (λ_ n=>n),g,h,t⟩,
  n.self,λP f=>Qk (n.aE P f) c.size,n.KI,n.tJ⟩
def eB.af(n:eB b a f b6)(P:ai b k):eB k a f b6:=n.keep P λ_ _ n=>n
def kI:jt LL 3 (Value.int .i64):=Yc Tryz.underlying3
def mA:mZ LL 181 3 3 (WP 0):=⟨kR,kR⟩
def mH:mZ LL 182 3 52 (.slice none 0 0):=⟨kR,kR⟩
def Kq:bn 61 #[WP e] b
  (Ok λh c=>∃d f,h= RK d/\eB c d f ⟨e,[],[]⟩/\ai b c/\∀n,f n->b.heap.size<=n):=by
 refine DM (PA.mk λi j q k=>PA.mk λl g r m=>PA.mk λo P s p=>Ok.mk ⟨l.heap.size,λn=>b.heap.size<=n/\n<o.heap.size,rfl,
  ⟨⟨b.heap.size,i.heap.size,[],[],p,bX.new (P.get (g.get k id) id),bX.new (P.get m id),trivial,trivial,oM,oM,oM⟩,oM,λn a=>a.2,by simp[Tidy],sM⟩,
  (j.af g).af P,λn a=>a.1⟩)
def Kw(n:eB b a f b6)(t:aH e):
  bn 72 #[RK a,WP e,WP r] b
   (Ok λo i=>o= .tuple #[]/\eB i a f {b6 with asked:=aJ b6.asked e r}/\aj f b i):=by
 obtain⟨P,u,K,v,j,p,w,x,y,q,z,s⟩:=n.body;have A:∃c d,b.heap[P]? =some (.map c d):=by obtain⟨c,d,n,_⟩:=p.at';exact⟨c,d,n⟩
 obtain⟨c,d,k⟩:=A;have B:a≠P:=by rintro rfl;rw[j]at k;cases k
 refine qx ⟨a,0,rfl,some P,ae j rfl,dG mA kI p λi C g E=>Ok.mk ⟨rfl,⟨⟨P,u,_,v,g.get j B,C,w.keep g (Ne.symm s),fT.aJ (R:=isI) rfl x,?_,q,z,s⟩,n.self,?_,n.KI.aJ _ _,?_⟩,g.mono ?_⟩⟩
 ·refine y.mono λo L F=>F.keep g (λl _ _ h=>?_) (λ_ n=>n)
  rintro rfl;obtain⟨M,h,H⟩:=h;rw[k]at h;cases h;exact H _ _ rfl
 ·intro l I;rw[E];exact n.aE l I
 ·intro J m
  rcases fO m with rfl|m
  ·exact t
  ·exact n.tJ J m
 ·rintro l _ rfl;exact q
def kQ.all(P:kQ)(n:Int)(a:List Int):List Int:=jC ((au P.heard n).getD []) a
def HU(P n:List Int):Bool:=ic P n==0||ic P n==2
def kQ.ends(a:kQ)(n:Int)(b P:List Int):Bool:=(au a.asked n).isSome&&HU (a.all n b) P
def kQ.Aw(P:kQ)(n:Int)(b a:List Int):kQ:=
 {P with heard:=aJ P.heard n (P.all n b),asked:=if P.ends n b a then bR P.asked n else P.asked}
def CV(a:∀b∈s,aH b)(n:Int):aH (dH s n):=by
 unfold dH;split
 ·unfold aH;omega
 ·by_cases P:n.toNat<s.length
  ·have:=a s[n.toNat] (XY P)
   simp only[List.getD,Qq P,Option.getD_some];unfold aH at*;omega
  ·have:s[n.toNat]? =none:=by simp;omega
   simp only[List.getD,this,Option.getD_none];unfold aH;omega
def FR(a:∀n∈s,aH n)(b:∀n∈b2,aH n):∀n∈jC s b2,aH n:=by
 intro n c;obtain⟨P,_,rfl⟩:=Xk.1 c;have d:=CV a P;have e:=CV b P;unfold aH at*;omega
def HV(n P:List Int):(jC n P).length=max n.length P.length:=tH _ _ _
def eB.VF(i:fT (QM b f) g2 h7)(n:Int):
  ∃P a c,(au g2 n).getD (.slice none 0 0)= .slice P a c/\Ints b P a ((au h7 n).getD [])/\a*8<=aP/\∀g,aI P=some g->f g:=by
 rcases i.au n with⟨d,e⟩|⟨m,o,d,e,P,a,c,rfl,j,h,k,l⟩
 ·rw[d,e];exact⟨none,0,0,rfl,Ints.nil b,by simp[aP],by simp[aI]⟩
 ·rw[d,e];exact⟨P,a,c,rfl,j.ints h k,h,l⟩
def Km(n:eB b a f b6)(L:Ints b d c s)(hy:Ints b v i b2)(W:b2≠[]->pW f v):
  bn 101 #[RK a,WP e,.slice d c p,.slice v i I] b
   (Ok λr q=>∃F',r= .bool (b6.ends e s b2)/\eB q a F' (b6.Aw e s b2)/\cd f b F' q):=by
 obtain⟨o,u,E,lh,F,y,X,M,h5,Y,N,O⟩:=n.body;obtain⟨k,l,Q⟩:∃k l,b.heap[u]? =some (.map k l):=by obtain⟨k,l,n,_⟩:=X.at';exact⟨k,l,n⟩
 obtain⟨c9,d0,a6⟩:∃k l,b.heap[o]? =some (.map k l):=by obtain⟨k,l,n,_⟩:=y.at';exact⟨k,l,n⟩
 have b7:a≠u:=by rintro rfl;rw[F]at Q;cases Q
 have b8:a≠o:=by rintro rfl;rw[F]at a6;cases a6
 obtain⟨ha,hn,hc,hg,R,hB,hF⟩:=eB.VF h5 e;refine qy ⟨a,0,rfl,some u,ae F rfl,AF mH kI X ⟨ha,hn,hc,hg,PC.ok (vz R L) ?_⟩⟩;rintro _ w1 ⟨w,z,S,rfl,Z,t,a7⟩;have b9:z=(b6.all e s).length:=by have:=Z.length;rw[kp,Nat.mul_one]at this;exact this.symm
 have a8:z*8<=aP:=by
  rw[b9];unfold kQ.all;rw[HV];have:=R.len;have:=R.eO;have:=L.len;have:=L.eO;unfold aP at*;omega
 have a9:∀c0∈b6.all e s,aH c0:=FR R.zF L.zF;refine⟨w,z,S,rfl,a,0,rfl,some u,ae (t.get F id) rfl,dG mH kI (X.keep t id) λh b0 A c1=>?_⟩;have H:aI w≠some u:=λj=>by have:=a7 _ j;have:=az Q;omega
 have b1:Own h 3 1 w z S (ints (b6.all e s)):=Z.keep A (dB.2 λv W=>by rintro rfl;exact H W);have c2:Ints h v i b2:=(hy.af t).Iu A λc3 a0 hq=>by rintro rfl;exact W c3 a0 hq N
 refine PC.ok (sG (b1.ints a8 a9) c2) ?_;rintro _ _ ⟨rfl,rfl⟩;have T:h.heap[a]? =some (.cells #[WP b6.dj,.map (some o),.map (some u)] 184 (0,0)):=A.get (t.get F id) b7;have U:bX h o (Value.int .i64) E:=(y.keep t id).keep A O;refine⟨_,rfl,?_⟩
 let F':ac:=λP=>f P\/(b.heap.size<=P/\P<w1.heap.size)
 have a1:cd f b F' h:=⟨(t.keep (S:=f)).trans A (λ_ _ n=>n) (by rintro P _ rfl;exact N),λP m=>m.imp id (·.1)⟩
 have b3:fT (QM h F') (aJ lh e (.slice w z S)) (aJ b6.heard e (b6.all e s)):=by
  refine fT.aJ ⟨w,z,S,rfl,b1,a8,a9,λP m=>.inr ⟨a7 P m,Z.lt m⟩⟩ (h5.mono λr ys J=>?_);refine(J.keep t (F':=f) (λ_ _ _ _ n=>n) (λ_ n=>n)).keep A (λP _ _ g=>?_) (λ_ n=>.inl n);rintro rfl;obtain⟨c4,g,H⟩:=g;rw[t.get Q id]at g;cases g;exact H _ _ rfl
 have b4:∀P,F' P->P<h.heap.size:=λP m=>by
  rw[c1];rcases m with m|m
  ·exact Qk (n.aE P m) t.size
  ·exact m.2
 have c5:eB h a F' {b6 with heard:=aJ b6.heard e (b6.all e s)}:=
  ⟨⟨o,u,E,_,T,U,b0,M,b3,.inl Y,.inl N,O⟩,.inl n.self,b4,n.KI,n.tJ⟩
 have a2:(au E e).isSome=(au b6.asked e).isSome:=by
  rcases M.au e with⟨B,V⟩|⟨r,b5,B,V,_⟩<;>rw[B,V]<;>rfl
 have c6:∃P:Int,(au E e).getD (WP 0)= WP P:=by
  rcases M.au e with⟨B,V⟩|⟨r,b5,B,V,J⟩
  ·rw[B];exact⟨0,rfl⟩
  ·rw[B];exact⟨b5,J⟩
 obtain⟨k0,c7⟩:=c6;have no:b6.ends e s b2=false->Ok (λr q=>∃F',r= .bool (b6.ends e s b2)/\eB q a F' (b6.Aw e s b2)/\cd f b F' q) (.returned (.bool false)) h:=λj=>
  Ok.mk ⟨F',by rw[j],by unfold kQ.Aw;rw[j];exact c5,a1⟩
 have a3:∀x,b6.ends e s b2=true->bX x o (Value.int .i64) (bR E e)->aj (·=o) h x->x.heap.size=h.heap.size->
   Ok (λr q=>∃F',r= .bool (b6.ends e s b2)/\eB q a F' (b6.Aw e s b2)/\cd f b F' q) (.returned (.bool true)) x:=λx j hm C a5=>by
  obtain⟨d1,d2,c8⟩:∃k l,h.heap[o]? =some (.map k l):=by obtain⟨k,l,n,_⟩:=U.at';exact⟨k,l,n⟩
  refine Ok.mk ⟨F',by rw[j],?_,a1.keep.trans C (λ_ _ n=>n) (by rintro P _ rfl;exact Y),a1.new⟩;unfold kQ.Aw;rw[j];refine⟨⟨o,u,_,_,C.get T b8,hm,b0.keep C (Ne.symm O),M.bR,?_,.inl Y,.inl N,O⟩,.inl n.self,λP m=>by rw[a5];exact b4 P m,n.KI.bR e,λa0 hq=>n.tJ a0 (gU hq)⟩;refine b3.mono λr ys J=>J.keep C (λP _ _ g=>?_) (λ_ n=>n);rintro rfl;obtain⟨c4,g,H⟩:=g;rw[c8]at g;cases g;exact H _ _ rfl
 refine⟨λq=>h=q/\b6.ends e s b2=true,⟨a,0,rfl,some o,ae T rfl,jN mA kI U ?_⟩,?_⟩
 rotate_left
 ·rintro _ _ ⟨rfl,j⟩
  exact⟨a,0,rfl,some o,ae T rfl,Mp mA kI U λx hm C a5=>a3 x j hm C a5⟩
 rw[c7];refine⟨k0,_,rfl,al.mk (λg=>?_) (λg=>al.mk (λh0=>al.mk (λy=>?_) (λy=>?_)) (λh0=>?_))⟩
 ·refine no ?_
  have:(au b6.asked e).isSome=false:=by rw[<-a2];simpa using g
  simp[kQ.ends,this]
 ·refine no ?_
  have w:(ic (b6.all e s) b2==0)=false:=by simpa[bne]using h0
  have K:(ic (b6.all e s) b2==2)=false:=by simpa[bne]using y
  simp[kQ.ends,HU,w,K]
 ·have j:b6.ends e s b2=true:=by
   have a4:(au b6.asked e).isSome=true:=by rw[<-a2];simpa using g
   have K:(ic (b6.all e s) b2==2)=true:=by simpa[bne]using y
   simp[kQ.ends,HU,a4,K]
  exact⟨rfl,j⟩
 ·have j:b6.ends e s b2=true:=by
   have a4:(au b6.asked e).isSome=true:=by rw[<-a2];simpa using g
   have K:(ic (b6.all e s) b2==0)=true:=by simpa[bne]using h0
   simp[kQ.ends,HU,a4,K]
  exact⟨rfl,j⟩
def kQ.open(n:kQ):List Int:=xd (n.asked.map (·.1))
def Nq(i:eB b a f b6)(c:b6.asked.length*8<=aP):
  bn 105 #[RK a] b (Ok (HW b 3 b6.open)):=by
 obtain⟨j,C,p,E,q,r,F,d,H,I,J,K⟩:=i.body;refine ri ⟨a,0,rfl,some j,ae q rfl,PC.ok (φ:=λs e=>s= .func (.func 224) #[] #[RK b.heap.size]/\ai b e/\e.heap.size=b.heap.size+1/\
  e.heap[b.heap.size]? =some (.cells #[.map (some j)] 181 (0,0))) (jv (PA.mk λt n k g=>Ok.mk ⟨rfl,n,k,g⟩)) ?_⟩
 rintro _ t ⟨rfl,n,k,g⟩;have u:∀P∈p,aH P.1:=by
  intro P v;have:P.1∈b6.asked.map (·.1):=by rw[<-d.keys];exact Xk.2 ⟨P,v,rfl⟩
  obtain⟨w,h,x⟩:=Xk.1 this;rw[<-x];exact i.tJ w h
 refine⟨_,rfl,PC.ok (Ax (r.af n) u (by rw[d.length];exact c) g) ?_⟩;rintro _ L ⟨l,m,o,rfl,y,z,A⟩;refine⟨l,m,o,rfl,Ok.mk ⟨l,m,o,rfl,?_,n.af z,λB c=>by have:=A B c;omega⟩⟩;unfold kQ.open;rw[<-d.keys];exact y
def Ko(c:eB b a f b6):
  bn 78 #[RK a] b (Ok λt k=>t= .tuple #[]/\eB k a f ⟨b6.dj,[],[]⟩/\aj f b k):=by
 obtain⟨e,g,C,E,d,l,m,F,H,o,p,i⟩:=c.body;obtain⟨n,P,q⟩:∃n P,b.heap[g]? =some (.map n P):=by obtain⟨n,P,c,_⟩:=m.at';exact⟨n,P,c⟩
 obtain⟨I,J,r⟩:∃n P,b.heap[e]? =some (.map n P):=by obtain⟨n,P,c,_⟩:=l.at';exact⟨n,P,c⟩
 have u:a≠g:=by rintro rfl;rw[d]at q;cases q
 have s:a≠e:=by rintro rfl;rw[d]at r;cases r
 refine qz ⟨a,0,rfl,some e,ae d rfl,Kd mA l λK v h w=>⟨a,0,rfl,some g,ae (h.get d s) rfl,Kd mH (m.keep h (Ne.symm i)) λL x j y=>Ok.mk ⟨rfl,
  ⟨⟨e,g,[],[],j.get (h.get d s) u,v.keep j i,x,trivial,trivial,o,p,i⟩,c.self,λz A=>by rw[y,w];exact c.aE z A,by simp[Tidy],sM⟩,?_⟩⟩⟩
 exact h.trans j (by rintro B _ rfl;exact o) (by rintro B _ rfl;exact p)
def gH(b P:Int)(a:List Int×List (Int×Int))(n:Int):List Int×List (Int×Int):=
 if PP .i64 (P-(au a.2 n).getD 0)>=b then(a.1++[n],aJ a.2 n P)else a
def kQ.jH(n:kQ)(P:Int)(a:Nat):List Int×List (Int×Int):=(n.open.take a).foldl (gH n.dj P) ([],n.asked)
def kQ.due(P:kQ)(n:Int):List Int:=(P.jH n P.open.length).1
def kQ.Tw(n:kQ)(P:Int):kQ:={n with asked:=(n.jH P n.open.length).2}
def kQ.Nr(P:kQ)(n:Int)(b:P.open[a]? =some e):P.jH n (a+1)=gH P.dj n (P.jH n a) e:=by
 unfold kQ.jH;rw[Qw,b];simp
def QE(g:eB b a f b6)(P:b6.asked.length*8<=aP):
  bn 70 #[RK a,WP e] b
   (Ok λJ L=>∃M a4 a5,J= .slice M a4 a5/\Own L 3 1 M a4 a5 (ints (b6.due e))/\eB L a f (b6.Tw e)/\aj f b L/\∀n,aI M=some n->b.heap.size<=n):=by
 refine sW (PC.ok (Nq g P) ?_);rintro _ N ⟨A,k,lc,rfl,l,s,hn⟩;have b2:∀d∈b6.open,aH d:=by
  intro d B;have:d∈b6.asked.map (·.1):=(List.mergeSort_perm _ _).mem_iff.1 B;obtain⟨t,u,rfl⟩:=Xk.1 this;exact g.tJ t u
 have O:k=b6.open.length:=by have:=l.length;rw[kp,Nat.mul_one]at this;exact this.symm
 have b3:b6.open.length=b6.asked.length:=by simp[kQ.open,xd]
 have b4:k*8<=aP:=by rw[O,b3];exact P
 have hL:Ints N A k b6.open:=l.ints b4 b2;have b5:pW f A:=dB.2 λn P Q=>by have:=hn n P;have:=g.aE n Q;omega
 unfold aP at P;have d2:pW f none:=pW.none;refine⟨A,k,lc,rfl,λa6 v w R i m=>∃c:Nat,i=c/\c<=k/\a6=k-c/\Own m 3 1 v w R (ints (b6.jH e c).1)/\w<=c/\eB m a f {b6 with asked:=(b6.jH e c).2}/\aj f b m/\Ints m A k b6.open/\N.heap.size<=m.heap.size/\
   (∀n,aI v=some n->N.heap.size<=n),⟨_,0,rfl,Qj _,rfl,Own.nil _ _ _,Qj _,g.af s,s.keep,hL,Q4 _,by simp[aI]⟩,?_⟩
 rintro a6 v w R i _ m ⟨c,rfl,d3,rfl,S,d4,C,T,U,b7,p⟩;refine al.mk (λx=>?_) (λx=>?_)
 ·have x:=XV x
  obtain⟨n,V,d,rfl,d5,B,b8,hc⟩:=U.at (i:=(c:Int)) oM oM;rw[Qx]at B;have a7:=b6.Nr e B;obtain⟨ra,rh,ZB,lh,t1,t2,t3,t4,t5,t6,t7,t8⟩:=C.body;refine⟨n,V,rfl,oM,oM,d,hc,a,0,rfl,some ra,ae t1 rfl,?_⟩;have b9:(au ZB d).getD (WP 0)= WP ((au (b6.jH e c).2 d).getD 0):=by
   rcases t4.au d with⟨W,X⟩|⟨J,d6,W,X,Y⟩
   ·rw[W,X];rfl
   ·rw[W,X];exact Y
  refine⟨(au (b6.jH e c).2 d).getD 0,λc0=>?_,a,0,rfl,b6.dj,ae t1 rfl,λw3 hd=>?_⟩
  ·have:=eR mA kI (t2.keep (aj.drewN (S:=λ_=>False) m c0) id) d false
   simpa[b9]using this
  have h:ai m w3:=hd.keep;refine al.mk (λo=>?_) (λo=>?_)
  ·have o:=XV o
   refine PA.mk λw4 q s4 g4=>?_;refine ND TF ((S.af h).af q) g4 (by unfold aP at*;omega) λa' c' w5 a8 E K=>?_;refine⟨a',w+1,c',rfl,a,0,rfl,?_⟩;have c1:∀n,f n->¬(some n=aI v):=λn Q Z=>by have:=p n Z.symm;have:=g.aE n Q;have:=s.size;omega
   have y:eB w5 a f {b6 with asked:=(b6.jH e c).2}:=((C.af h).af q).keep E c1;obtain⟨j,a0,a9,a1,a2,b0,c2,c3,c4,a3,c5,b1⟩:=y.body;refine⟨some j,ae a2 rfl,dG mA kI b0 λw6 c6 r c7=>?_⟩;obtain⟨F,H,I⟩:∃F H,w5.heap[j]? =some (.map F H):=by obtain⟨F,H,g,_⟩:=b0.at';exact⟨F,H,g⟩
   have c8:a≠j:=by rintro rfl;rw[a2]at I;cases I
   have c9:eB w6 a f {b6 with asked:=aJ (b6.jH e c).2 d e}:=by
    refine⟨⟨j,a0,_,a1,r.get a2 c8,c6,c2.keep r (Ne.symm b1),fT.aJ (R:=isI) rfl c3,?_,a3,c5,b1⟩,y.self,λn P=>by rw[c7];exact y.aE n P,y.KI.aJ _ _,?_⟩
    ·refine c4.mono λJ ys Y=>Y.keep r (λt _ _ l=>?_) (λ_ g=>g)
     rintro rfl;obtain⟨d7,l,d0⟩:=l;rw[I]at l;cases l;exact d0 _ _ rfl
    ·intro t u
     rcases fO u with rfl|u
     ·exact b8
     ·exact y.tJ t u
   have z:b6.jH e (c+1)=((b6.jH e c).1++[d],aJ (b6.jH e c).2 d e):=by rw[a7];unfold gH;rw[Zx o]
   have d1:∀n,aI a'=some n->n≠j:=λn P=>by
    rintro rfl;exact a8.Wt I P
   refine⟨_,?_,c+1,?_,oM,rfl,?_,oM,by rw[z];exact c9,?_,?_,?_,?_⟩
   ·omega
   ·rw[wrap_i64 cS];simp
   ·rw[z];exact a8.keep r (dB.2 d1)
   ·refine(((T.af h).af q).new E ?_).trans r (λ_ _ g=>g) (by rintro t _ rfl;exact a3)
    intro n P;right;have:=p n P.symm;have:=s.size;omega
   ·refine(((U.af h).af q).keep E (dB.2 λn P Z=>?_)).keep r (dB.2 λn P=>?_)
    ·have:=p n Z.symm;have:=l.lt P;omega
    ·rintro rfl;exact dB.1 b5 n P a3
   ·have:=h.size;have:=q.size;have:=E.size;omega
   ·intro n P
    rcases K with K|K
    ·exact p n (K▸P)
    ·rw[K]at P;cases P;have:=h.size;have:=q.size;omega
  ·have o:=Xy o
   have z:b6.jH e (c+1)=b6.jH e c:=by rw[a7];unfold gH;rw[Zq o]
   refine⟨_,?_,c+1,?_,oM,rfl,by rw[z];exact S.af h,oM,by rw[z];exact C.af h,T.af h,U.af h,Xx b7 h.size,p⟩
   ·omega
   ·rw[wrap_i64 cS];simp
 ·have x:=Xy x
  obtain rfl:c=k:=oM
  refine Ok.mk ⟨v,w,R,rfl,?_,?_,T,λn P=>Xx s.size (p n P)⟩
  ·unfold kQ.due;rw[<-O];exact S
  ·unfold kQ.Tw;rw[<-O];exact C
structure bF where
 aA:Int
 uV:Int
 bk:Int
 chunk:Int
 buffer:Int
 dj:Int
 every:Int
 start:Int
 decl:aU
structure bh where
 S:aq
 D:ak
 log:Option dA
 waits:List ah
 gJ:kQ
def fQ(n:bF)(P:Int):Bool:=
 within n.aA 1 64&&within P 0 (n.aA-1)&&within n.uV 64 262144&&decide (n.bk>=1)&&decide (n.every>=1)&&within n.chunk 1 32&&within n.buffer 1 256&&within n.dj 1 1048576&&decide (n.start>=0)
section
variable (c:bF) (self:Int)
def fM(P:bh):Int×bh:=
 let n:=aT P.D c.bk
 if n.no≠0 then(n.no,{P with D:=n.D,log:=none,S:=⟨c.aA.toNat,[]⟩})
 else(0,{P with D:=n.D,log:=some n.V,S:=(⟨c.aA.toNat,[]⟩:aq).eG n.out})
def Cr:Int×bh:=fM c ⟨⟨c.aA.toNat,[]⟩,gX c.uV.toNat,none,[],⟨c.dj,[],[]⟩⟩
def fp(n:aq)(P:List ah):aq:=(⟨c.aA.toNat,[]⟩:aq).eG (n.l++P)
def dx(P:bh)(b:List ah):Int×bh:=match P.log with
 |none=>(15,P)
 |some d=>
  let n:=aG d P.D b
  if n.1≠0 then(n.1,{P with log:=some n.2.1,D:=n.2.2})else
  let a:=n.2.2.sync n.2.1.last
  if a.1≠0 then(a.1,{P with log:=some n.2.1,D:=a.2})else
  (0,{P with log:=some n.2.1,D:=a.2,S:=fp c P.S b})
def eU(n:bh)(b:jT):Int×(Int×Int)×bh:=match n.log with
 |none=>(15,(0,0),n)
 |some _=>
  let P:=fk c.decl n.S (bU c.decl n.S.l) self c.start b
  if P.2.2≠0 then(P.2.2,(0,0),n)else
  if P.2.1 then(let a:=dx c n [P.1];if a.1≠0 then(a.1,(0,0),a.2)else(0,aZ P.1,a.2))
  else(0,aZ P.1,n)
def fg(P:bh)(n a:Int):List bG×bh:=
 if n<0\/n>=c.aA\/n=self then([],P)else([lF P.S self n],{P with gJ:={P.gJ with asked:=aJ P.gJ.asked n a}})
def pX(a:bh)(n:Int):List bG×bh:=((a.gJ.due n).map λP=>lF a.S self P,{a with gJ:=a.gJ.Tw n})
def gW(n:Nat):List ah->aq->List ah->List ah->aq×List ah×List ah
 |[],a,P,b=>(a,P,b)
 |e::c,a,P,b=>
  if(a.add e).1=0 then gW n c (a.add e).2 (P++[e]) b
  else if(a.add e).1=16 then gW n c a P b
  else gW n c a P (eY n b e).2
def eL:List ah->aq->List ah->aq×List ah
 |[],P,n=>(P,n)
 |e::a,P,n=>if(P.add e).1=0 then eL a (P.add e).2 (n++[e])else eL a (P.add e).2 n
def qd:Nat->aq->List ah->List ah->List ah×List ah
 |0,a,n,b=>(n,b)
 |k+1,a,n,b=>
  let P:=bM a b
  if P.1=[]then(n,P.2)else
  let c:=eL P.1 a n
  qd k c.1 c.2 P.2
def jg(P:bh)(a:List ah):List ah×List ah:=
 let n:=gW c.buffer.toNat a (fp c P.S []) [] P.waits
 qd (n.2.2.length+1) n.1 n.2.1 n.2.2
def lP(n:bh)(a:bG):List bG×Int×bh:=
 let b:=jg c n a.events
 let n:={n with waits:=b.2}
 if b.1=[]then([Av n.S self a.bO],0,n)else
 let P:=dx c n b.1
 if P.1≠0 then([],P.1,{P.2 with waits:=[]})else([Av P.2.S self a.bO],0,P.2)
def cy(n:bh)(P:bG):List bG×Int×bh:=match n.log with
 |none=>([],15,n)
 |some _=>
  let no:=fq P c.aA.toNat c.chunk
  if no≠0 then([],no,n)else
  if P.m_≠self then([],1,n)else
  if P.kind=3 then lP c self n P else
  let n:={n with gJ:=n.gJ.Aw P.bO P.vec n.S.vec}
  if P.kind≠4 then(ly n.S self P c.chunk,0,n)else
  let a:=n.S.missing P.vec c.chunk
  if a=[]then([],0,n)else([⟨3,self,P.bO,[],a⟩],0,n)
def ie(P:bh)(n:Int):Int×bh:=fM c {P with D:=dw (P.D.eA n),waits:=[],gJ:=⟨P.gJ.dj,[],[]⟩}
def dR(n:bh):Int×bh:=match n.log with
 |none=>(15,n)
 |some a=>
  let P:=aR a n.D n.S.l c.bk
  if P.no≠0 then(P.no,{n with D:=P.D})else(0,{n with D:=P.D,log:=some P.V})
end
def tu:lq:=⟨[],[],[],[],[(1,⟨[0,0,2,4,8,0,0,64,128,256,544,1040,4095,8191,12287],[32767,32767,32765,32763,32759,32767,32767,32703,32639,32511,32223,31727,32766,28671,22527],[0,0,0,0,1,0,0,0,0,1,0,0,0,0,2]⟩)]⟩
def sK(y:(dr d λz A=>(rI b (ad z (A+2)) λC=>PR_ (eq_ .quo 3 (.tmp 5) (.tmp 9) (.ii e) (.ii C)) b (kI_ λn D=>(∀P,bW D P->(dr d λE F=>(rS P (ad E (F+3)) λG a3 f=>(dr d λH I=>(rI P (ad H (I+2)) λc=>((0:Int)<=(PP .i64 (n*c))/\((PP .i64 (n*c)):Int)<=(f:Int)/\(dr d λJ K=>PS P (ad J (K+3)) (.slice G (Int.toNat (PP .i64 (n*c))) f) λg=>(dr d λL M=>(rS g (ad L (M+6)) λN h i=>((0:Int)<=(PP .i64 (n+1))/\((PP .i64 (n+1)):Int)<=(h:Int)/\PR_ (Builtin.clear_ #[248] 0 #[.slice (df N (Int.toNat (PP .i64 (n+1))) i 2) (h-Int.toNat (PP .i64 (n+1))) (i-Int.toNat (PP .i64 (n+1)))]) g (λa4 j=>(dr d λO Q=>(rS j (ad O (Q+6)) λR a5 k=>((0:Int)<=(PP .i64 (n+1))/\((PP .i64 (n+1)):Int)<=(k:Int)/\(dr d λS T=>PS j (ad S (T+6)) (.slice R (Int.toNat (PP .i64 (n+1))) k) λa=>(dr d λU V=>(rS a (ad U (V+6)) λW X a6=>(ix_ W n X λl m=>(∃o p q r,a.cell? (ad l (m+Int.toNat n*2))=some (.pointer o)/\a.cell? (ad l (m+Int.toNat n*2+1))=some (.slice p q r)/\PC_ 197 #[.pointer d,.agg #[.pointer o,.slice p q r]] a (λY Z=>∃s t u v,Y= .agg #[.pointer s,.slice t u v]/\(dr d λw x=>PS Z (ad w (x+4)) (.pointer s) λa1=>PS a1 (ad w (x+4+1)) (.slice t u v) λa2=>rt B ((.tuple #[])) a2)) (pE B)))))))))) (pV B)))))))))))) (pV B)))):bn 157 #[.pointer d,.ii e] b B:=DC tu Tryz.func157 rfl y
def BH:lq:=⟨[(2,[(5,WP 0),(6,WP 0)])],[],[],[],[]⟩
def BI(k:(∃d:Nat->Int->Int->bc,(∃a,d a 0 e b)/\∀(a:Nat) (n:Int) (P:Int) (m:Nat->Value) (f:World),d a n P f->al (decide (n<P)) ((∃g h i,(.func (.func A) o Y:Value)= .func (.func g) h i/\enters LL g=true/\PC_ g (h++ #[.ii (PP .i64 (kU .u64 (PP .u64 (PP .i64 (n+P))) 1))]++i) f (kB λl j=>al (!l) ((∃c,c<a/\d c (PP .i64 ((PP .i64 (kU .u64 (PP .u64 (PP .i64 (n+P))) 1))+1)) P j)) ((∃c,c<a/\d c n (PP .i64 (kU .u64 (PP .u64 (PP .i64 (n+P))) 1)) j))) (pE B))) (rt B ((.ii n)) f))):bn 133 #[.ii e,.func (.func A) o Y] b B:=DC BH Tryz.func133 rfl k
def D_:lq:=⟨[],[],[],[],[]⟩
def Eb(n:((0:Int)<=(if(a:Int)<(if 0>e then 0 else e)then(a:Int)else(if 0>e then 0 else e))/\((if(a:Int)<(if 0>e then 0 else e)then(a:Int)else(if 0>e then 0 else e)):Int)<=(if(a:Int)<(if 0>e then 0 else e)then(a:Int)else(if 0>e then 0 else e))/\((if(a:Int)<(if 0>e then 0 else e)then(a:Int)else(if 0>e then 0 else e)):Int)<=(c:Int)/\PC_ 190 #[.slice d (Int.toNat (if(a:Int)<(if 0>e then 0 else e)then(a:Int)else(if 0>e then 0 else e))) (Int.toNat (if(a:Int)<(if 0>e then 0 else e)then(a:Int)else(if 0>e then 0 else e)))] b (kS_ λP f g h=>rt B ((.tuple #[.slice P f g,.bool (decide (((if(a:Int)<(if 0>e then 0 else e)then(a:Int)else(if 0>e then 0 else e)):Int)<(a:Int)))])) h) (pE B))):bn 135 #[.slice d a c,.ii e] b B:=DC D_ Tryz.func135 rfl n
def jY:lq:=⟨[(3,[(7,WP 0),(8,WP 0)])],[],[],[],[]⟩
def jM(l:(∃i:Nat->Int->Int->bc,(∃g,i g 0 (a:Int) b)/\∀(g:Nat) (n:Int) (P:Int) (A:Nat->Value) (f:World),i g n P f->al (decide (n<P)) ((dr d λm o=>(0:Int)<=(PP .i64 (kU .u64 (PP .u64 (PP .i64 (n+P))) 1))/\(PP .i64 (kU .u64 (PP .u64 (PP .i64 (n+P))) 1))<(a:Int)/\(rI f (ad m (o+Int.toNat (PP .i64 (kU .u64 (PP .u64 (PP .i64 (n+P))) 1)))) λp=>PC_ 328 #[.ii p,.ii e] f (kB λq j=>al q ((∃h,h<g/\i h (PP .i64 ((PP .i64 (kU .u64 (PP .u64 (PP .i64 (n+P))) 1))+1)) P j)) ((∃h,h<g/\i h n (PP .i64 (kU .u64 (PP .u64 (PP .i64 (n+P))) 1)) j))) (pE B)))) (al (decide (n<(a:Int))) ((ix_ d n a λr s=>(rI f (ad r (s+Int.toNat n)) λt=>al (t==e) (rt B ((.tuple #[.ii n,.bool true])) f) ((ix_ d n a λu v=>(rI f (ad u (v+Int.toNat n)) λw=>PC_ 332 #[.ii w] f (kB λx k=>al x (PC_ 332 #[.ii e] k (kB λy z=>rt B ((.tuple #[.ii n,.bool y])) z) (pE B)) (rt B ((.tuple #[.ii n,.bool false])) k)) (pE B))))))) (rt B ((.tuple #[.ii n,.bool false])) f)))):bn 294 #[.slice d a c,.ii e] b B:=DC jY Tryz.func294 rfl l
end
end Go.Proofs.YtkpomgifkloklaaGreatDoor
namespace Go.aw
open Go
def qg(n:Int×Int):Value:=.agg #[WP n.1,WP n.2]
def Du(n:Int×Int×Int):Value:=.agg #[WP n.1,WP n.2.1,WP n.2.2]
structure KS (P:Program) (t ti:TypeId):Prop where
 hu:P.underlying t=some (.struct (P.fieldsOf t))
 ui:P.underlying ti=some (.int .i64)
 hf:∃n1 n2,(P.fieldsOf t).toList.map (λf=>(f.name,f.type,f.offset))=[(n1,ti,0),(n2,ti,1)]/\n1≠ "_"/\n2≠ "_"
 hp:P.stoodInHeld t=false
 hm:P.eqGuardType P.depth t=false
 ag:uW P ti=false
variable{O b7 e r:Int}{U Z:Operand}{b:World}
section
variable {P:Program} {t ti:TypeId}
def KS.equalIn(a:KS P t ti)(e:Nat)(b c:Int×Int)(d:World):(Op.equalIn (e+2) t (qg b) (qg c)).run P d= .ok (b==c) d:=by
 obtain⟨v,w,n,f,g⟩:=a.hf;unfold qg;rw[run_equalIn_struct d (e+1) _ _ _ a.hu a.hp];generalize(P.fieldsOf t).toList=h at n
 match h,n with
 |[x,y],n=>
  simp only[QY,List.map_nil,List.cons.injEq,Prod.mk.injEq,and_true]at n;obtain⟨⟨i,j,k⟩,l,m,o⟩:=n;have p:(isAgg ti).run P d= .ok false d:=di _ _ _ a.ag ⟨_,a.ui⟩ d;have q:=run_equalIn_int (P:=P) d e ti .i64 .i64 b.1 c.1 a.ui;have r:=run_equalIn_int (P:=P) d e ti .i64 .i64 b.2 c.2 a.ui;unfold Op.eqFields Op.eqFields Op.eqFields;rw[i,j,k,l,m,o];have s:(b==c)=(b.1==c.1&&b.2==c.2):=rfl;rw[s]
  cases a:b.1==c.1<;>simp[part,p,q,r,a,f,g]
  by_cases u:b.2=c.2<;>simp[u]
 |[],n=>simp at n
 |[_],n=>simp at n
 |_::_::_::_,n=>simp at n
def KS.eql(n:KS P t ti){a c:am}(d:a (.bool (e==O&&r==b7)) b):
  aK P (do eqGuard .eql t U Z (.agg #[WP e,WP r]) (.agg #[WP O,WP b7]);binOp .eql t (.agg #[WP e,WP r]) (.agg #[WP O,WP b7]):Sem Value) b a c:=by
 refine aK.mk (v:=.bool (e==O&&r==b7)) ?_ d;rw[Sem.run_bind,run_eqGuard_agg b .eql _ U Z _ _ n.hm,Result.andThen_ok,run_eql_struct];have:=n.equalIn 9998 (e,r) (O,b7) b;unfold qg at this;rw[this];rfl
def KS.neq(n:KS P t ti){a c:am}(d:a (.bool (!(e==O&&r==b7))) b):
  aK P (do eqGuard .neq t U Z (.agg #[WP e,WP r]) (.agg #[WP O,WP b7]);binOp .neq t (.agg #[WP e,WP r]) (.agg #[WP O,WP b7]):Sem Value) b a c:=by
 refine aK.mk (v:=.bool (!(e==O&&r==b7))) ?_ d;rw[Sem.run_bind,run_eqGuard_agg b .neq _ U Z _ _ n.hm,Result.andThen_ok,run_neq_struct];have:=n.equalIn 9998 (e,r) (O,b7) b;unfold qg at this;rw[this];rfl
def KS.check(b:KS P t ti)(d:Nat)(g:Int×Int)(a:World)(e:Bool):(Instr.checkKey e (d+2) t (qg g)).run P a= .ok () a:=by
 obtain⟨u,v,n,h,i⟩:=b.hf;have j:(isAgg ti).run P a= .ok false a:=di _ _ _ b.ag ⟨_,b.ui⟩ a;have k:∀f:Int,(Instr.checkKey e (d+1) ti (WP f)).run P a= .ok () a:=λf=>by simp[Instr.checkKey,run_underlying b.ui]
 unfold qg;have l:=b.hu;unfold Instr.checkKey;rw[Sem.run_bind,run_underlying l,Result.andThen_ok];generalize w:P.fieldsOf t=c at n;obtain⟨c⟩:=c
 match c,n with
 |[x,y],n=>
  simp only[QY,List.map_nil,List.cons.injEq,Prod.mk.injEq,and_true]at n;obtain⟨⟨m,o,p⟩,q,r,s⟩:=n;simp[m,o,p,q,r,s,part,j,k,h,i]
 |[],n=>simp at n
 |[_],n=>simp at n
 |_::_::_::_,n=>simp at n
def KS.key(n:KS P t ti):jt P t qg:=
 jt.struct n.hu (λa b=>rfl) (λa b c=>n.equalIn 9998 a b c) (λd c e=>n.check 9998 d c e) (λf a=>by unfold qg;simp[Instr.sameBits]) λ{a b} n=>by
  unfold qg at n;simp only[Value.agg.injEq,Array.mk.injEq,List.cons.injEq,Value.int.injEq,and_true,true_and]at n;exact Prod.ext n.1 n.2
structure xp (P:Program) (t t2 ti:TypeId):Prop where
 two:KS P t2 ti
 hu:P.underlying t=some (.struct (P.fieldsOf t))
 hf:∃n1 n2,(P.fieldsOf t).toList.map (λf=>(f.name,f.type,f.offset))=[(n1,t2,0),(n2,ti,2)]/\n1≠ "_"/\n2≠ "_"
 hp:P.stoodInHeld t=false
 ag:uW P t2=true
 sz:(P.info? t2).map (·.size)=some 2
variable {t2:TypeId}
def xp.TS(b:xp P t t2 ti)(a:Int×Int×Int)(n:World):(part t2 #[WP a.1,WP a.2.1,WP a.2.2] 0).run P n= .ok (qg (a.1,a.2.1)) n:=by
 obtain⟨g,c,d⟩:=Option.map_eq_some_iff.1 b.sz;have e:(isAgg t2).run P n= .ok true n:=di _ _ _ b.ag ⟨_,b.two.hu⟩ n;have f:(sizeOf t2).run P n= .ok 2 n:=by simp[sizeOf,typeInfo,c,d]
 unfold part;simp[e,f,qg]
def xp.equalIn(d:xp P t t2 ti)(f:Nat)(n a:Int×Int×Int)(b:World):(Op.equalIn (f+3) t (Du n) (Du a)).run P b= .ok (n==a) b:=by
 obtain⟨A,B,c,h,i⟩:=d.hf;have j:=d.TS n b;have k:=d.TS a b;have g:=d.two.equalIn f (n.1,n.2.1) (a.1,a.2.1) b;have m:=run_equalIn_int (P:=P) b (f+1) ti .i64 .i64 n.2.2 a.2.2 d.two.ui;have o:(isAgg ti).run P b= .ok false b:=di _ _ _ d.two.ag ⟨_,d.two.ui⟩ b;unfold Du;rw[run_equalIn_struct b (f+2) _ _ _ d.hu d.hp];generalize(P.fieldsOf t).toList=p at c
 match p,c with
 |[C,E],c=>
  simp only[QY,List.map_nil,List.cons.injEq,Prod.mk.injEq,and_true]at c;obtain⟨⟨q,r,s⟩,u,v,w⟩:=c;unfold Op.eqFields Op.eqFields Op.eqFields;rw[q,r,s,u,v,w];have x:(n==a)=(((n.1,n.2.1):Int×Int)==(a.1,a.2.1)&&n.2.2==a.2.2):=by
   show(n.1==a.1&&(n.2.1==a.2.1&&n.2.2==a.2.2))=((n.1==a.1&&n.2.1==a.2.1)&&n.2.2==a.2.2);rw[Bool.and_assoc]
  rw[x];have y:∀e:Int×Int×Int,(part ti #[WP e.1,WP e.2.1,WP e.2.2] 2).run P b= .ok (WP e.2.2) b:=λe=>by simp[part,o]
  cases l:((n.1,n.2.1):Int×Int)==(a.1,a.2.1)with
  |false=>
   rw[l]at g;simp[j,k,g,h,i]
  |true=>
   rw[l]at g;simp[j,k,g,m,y,h,i]
   by_cases z:n.2.2=a.2.2<;>simp[z]
 |[],c=>simp at c
 |[_],c=>simp at c
 |_::_::_::_,c=>simp at c
def xp.check(c:xp P t t2 ti)(d:Nat)(b:Int×Int×Int)(n:World)(e:Bool):(Instr.checkKey e (d+3) t (Du b)).run P n= .ok () n:=by
 obtain⟨x,y,a,h,i⟩:=c.hf;have j:=c.TS b n;have k:(isAgg ti).run P n= .ok false n:=di _ _ _ c.two.ag ⟨_,c.two.ui⟩ n;have l:∀g:Int,(Instr.checkKey e (d+2) ti (WP g)).run P n= .ok () n:=λg=>by simp[Instr.checkKey,run_underlying c.two.ui]
 have m:=c.two.check d (b.1,b.2.1) n e;have o:(part ti #[WP b.1,WP b.2.1,WP b.2.2] 2).run P n= .ok (WP b.2.2) n:=by simp[part,k]
 unfold Du;have p:=c.hu;rw[show d+3=(d+2)+1 from rfl];unfold Instr.checkKey;rw[Sem.run_bind,run_underlying p,Result.andThen_ok];generalize z:P.fieldsOf t=f at a;obtain⟨f⟩:=f
 match f,a with
 |[A,B],a=>
  simp only[QY,List.map_nil,List.cons.injEq,Prod.mk.injEq,and_true]at a;obtain⟨⟨q,r,s⟩,u,v,w⟩:=a;simp[q,r,s,u,v,w,j,o,m,l,h,i]
 |[],a=>simp at a
 |[_],a=>simp at a
 |_::_::_::_,a=>simp at a
def xp.key(n:xp P t t2 ti):jt P t Du:=
 jt.struct n.hu (λa b=>rfl) (λa b c=>n.equalIn 9997 a b c) (λd c e=>n.check 9997 d c e) (λf a=>by unfold Du;simp[Instr.sameBits]) λ{a b} n=>by
  unfold Du at n;simp only[Value.agg.injEq,Array.mk.injEq,List.cons.injEq,Value.int.injEq,and_true,true_and]at n;exact Prod.ext n.1 (Prod.ext n.2.1 n.2.2)
end
end Go.aw
namespace Go.Proofs.YtkpomgifkloklaaGreatDoor
open Go.aw
abbrev FZ:Int×Int->Value:=qg
def NA:KS LL 39 3:=⟨kR,kR,⟨ "Origin", "Seq",kR,dC,dC⟩,kR,kR,kR⟩
def Zf:jt LL 39 FZ:=NA.key
abbrev sS:ah:=⟨0,0,0,[],0,0,0,0,0,0⟩
abbrev lg(n:ah)(P:be)(a b:Nat):Value:=.agg (aF n P a b).toArray
def TG:mZ LL 166 39 82 (lg sS none 0 0):=⟨kR,kR⟩
def lJ{c:World}{D:ac}:∀{n:List Int} {cs:List Value},cf aO c D n cs↔cs=ints n/\∀x∈n,aH x
 |[],cs=>by simp[cf,ints]
 |x::n,cs=>by
  constructor
  ·rintro⟨g,h,rfl,⟨rfl,d⟩,e⟩
   obtain⟨rfl,f⟩:=lJ.1 e;exact⟨rfl,λa P=>by rcases Q2.1 P with rfl|P;exact d;exact f a P⟩
  ·rintro⟨rfl,b⟩
   exact⟨[WP x],ints n,rfl,⟨rfl,b x (QV ..)⟩,lJ.2 ⟨rfl,λa P=>b a (QJ _ P)⟩⟩
variable{Y o:Array Value}{e:Int}{b2 s:List Int}{a4:List Value}{I a c i p:Nat}{f:ac}{F:Nat×Nat}{d:be}{h:Program}{j:Type}{C g q:TypeId}{w:Value}{m t:am}{b k:World}{z:bc}{L l:ah}{y:aq}
def TH(P:aS aO g f b d a c s)(m:i<s.length)(o:aH e)(q:d=some ⟨p,I,none⟩)(h:∀n,aS aO g f n d a c (s.set i e)->aj (λp=>aI d=some p) b n->n.heap.size=b.heap.size->z n):PS b ⟨p,I+i,none⟩ (WP e) z:=by
 obtain⟨cs,D,r,t,u⟩:=P.body;obtain⟨rfl,j⟩:=lJ.1 t;refine r.set (m:=i) (by rw[kp];exact m) q λn v w l=>h n ⟨⟨_,D,v,lJ.2 ⟨?_,?_⟩,u⟩,P.self,λp j=>by rw[l];exact P.aE p j⟩ w l
 ·unfold ints;rw[List.map_set]
 ·intro x k
  rcases List.mem_or_eq_of_mem_set k with k|rfl
  ·exact j x k
  ·exact o
def VG(b:World)(D:ac)(c:Value)(n:ah):Prop:=∃P a d,c=lg n P a d/\Row aO 8 b D P a n.aM/\n.Ok
def VG.keep{S D:ac}(P:VG b D w l)(a:aj S b k)(c:∀n,D n->¬S n):VG k D w l:=by
 obtain⟨d,e,f,g,h,i⟩:=P;exact⟨d,e,f,g,h.keep a c,i⟩
def VG.mono{D n:ac}(a:VG b D w l)(c:∀P,D P->n P):VG b n w l:=by
 obtain⟨d,e,f,g,h,i⟩:=a;exact⟨d,e,f,g,h.mono c,i⟩
def CW:sS.Ok:=by constructor<;>simp[aH]
def nJ{D:ac}(h:Row aO 8 b D d a l.aM)(u:∀n,D n->n<b.heap.size):
  bn 137 #[lg l d a c] b (Ok λv i=>∃d a c G,v=lg l d a c/\Row aO 8 i G d a l.aM/\(∀n,G n->b.heap.size<=n/\n<i.heap.size)/\ai b i):=by
 have w:=h.eO;have x:=h.len;refine zY (PA.mk λA o B e=>PA.mk λC f E j=>⟨_,_,_,ae (f.get e id) rfl,PC.ok (bV (h.af (o.then f)) λn P=>by have:=u n P;omega) ?_⟩);rintro _ F ⟨p,q,r,G,rfl,s,g,k⟩;have e:=g.get (f.get e id) id;have j:=g.get j id;refine⟨_,_,_,rfl,PS.mk e (by simp[aF]) λH m I y=>?_⟩;refine ar (cs:=aF l p q r) (bg _ _ _ _) y (aD (bg _ _ _ _) (m.get j oM) rfl λJ t K z=>ar (bg _ _ _ _) z (Ok.mk ⟨p,q,r,G,rfl,?_,?_,?_⟩))
 ·refine(((s.keep m λn P=>?_).keep t λn P=>?_).row (bytes:=8) dC (by rw[<-x];exact w))
  ·have:=k n P;omega
  ·have:=k n P;omega
 ·intro n P
  have:=k n P;have:=s.aE n P;omega
 ·have L:=g.size
  exact((aj.new ((o.then f).then g) m λn P=>.inr oM).new t λn P=>.inr oM)
structure TI where
 a:be
 n:Nat
 c:Nat
 r:Nat
 V:ac
 D:ac
 l:List ((Int×Int)×Value)
 L:List ((Int×Int)×ah)
structure sq (w:World) (p:Nat) (F:ac) (S:aq) (q:TI):Prop where
 at':w.heap[p]? =some (.cells #[.slice q.a q.n q.c,.map (some q.r),WP S.top] 168 (0,0))
 vec:aS aO 3 q.V w q.a q.n q.c S.vec
 map:bX w q.r FZ q.l
 rel:fT (VG w q.D) q.l q.L
 key:∀x∈q.L,x.1=aZ x.2
 YP:(q.L.map (·.2)).Perm S.l
 aE:∀b,F b->b<w.heap.size
 sub:∀b,b=p\/b=q.r\/q.V b\/q.D b->F b
 YQ:p≠q.r
 XU:¬q.V p/\¬q.V q.r
 YR:¬q.D p/\¬q.D q.r
 ap4:∀b,q.V b->¬q.D b
def cM(P:World)(a:Nat)(b:ac)(n:aq):Prop:=n.OK/\∃c,sq P a b n c
section
variable {w w' w1:World} {p:Nat} {F T:ac} {S:aq} {q:TI}
def sq.keep(n:sq w p F S q)(a:aj T w w')(c:∀P,F P->¬T P):sq w' p F S q:=
 ⟨a.get n.at' (c p (n.sub p (.inl rfl))),n.vec.keep a λP b=>c P (n.sub P (.inr (.inr (.inl b)))),n.map.keep a (c _ (n.sub _ (.inr (.inl rfl)))),
  n.rel.mono λe f d=>d.keep a λP b=>c P (n.sub P (.inr (.inr (.inr b)))),n.key,n.YP,λP b=>Qk (n.aE P b) a.size,n.sub,n.YQ,n.XU,n.YR,n.ap4⟩
def sq.af(n:sq w p F S q)(P:ai w w'):sq w' p F S q:=n.keep P λ_ _ n=>n
def cM.keep(n:cM w p F S)(a:aj T w w')(b:∀P,F P->¬T P):cM w' p F S:=⟨n.1,n.2.imp λq c=>c.keep a b⟩
def cM.af(n:cM w p F S)(P:ai w w'):cM w' p F S:=n.keep P λ_ _ n=>n
def cM.aE(P:cM w p F S):∀n,F n->n<w.heap.size:=P.2.elim λq a=>a.aE
def sq.tidy(n:sq w p F S q):Tidy q.L:=by
 have:=n.map.tidy;unfold Tidy at*;rw[<-n.rel.keys];exact this
def sq.len(n:sq w p F S q):q.n=S.n:=by rw[n.vec.len dC,S.aY]
def sq.YS(n:sq w p F S q)(P:S.OK):Row aO 8 w q.V q.a q.n S.vec:=n.vec.row dC (by rw[S.aY];have:=P.n;unfold aP;omega)
def sq.look(P:sq w p F S q)(c:S.OK)(n:Int×Int):(au q.l n=none/\S.get n=none)\/∃a b,au q.l n=some a/\S.get n=some b/\VG w q.D a b:=by
 rw[<-KJ c P.key P.YP P.tidy n];exact P.rel.au n
def mK(n:cM w p F S):bn 54 #[RK p] w (Ok (qh aO 3 w S.vec)):=by
 obtain⟨P,q,n⟩:=n;refine xJ ⟨p,0,rfl,_,_,_,ae n.at' rfl,PC.ok (bV (n.YS P) λa b=>n.vec.aE a b) ?_⟩;rintro _ i ⟨c,d,e,G,rfl,f,g,h⟩;exact⟨_,_,_,rfl,Ok.mk ⟨c,d,e,G,rfl,f,g,h⟩⟩
def HX(n:cM w p F S):bn 116 #[RK p] w (Ok λP w'=>P= WP S.top/\w=w'):=by
 obtain⟨a,q,n⟩:=n;exact xM ⟨p,0,rfl,_,ae n.at' rfl,Ok.mk ⟨rfl,rfl⟩⟩
def TJ(r:cM w p F S){D:ac}(s:Row aO 8 w D d a l.aM)(he:l.Ok)(hn:l.aM.length=S.n){o:Nat}(ho:o<S.n):
  bn 156 #[RK p,lg l d a c,WP (o:Int)] w (Ok λj w'=>j= .bool (S.mr l o)/\ai w w'):=by
 obtain⟨t,q,r⟩:=r;have b1:=s.len;have hN:=t.n;refine vM (PA.mk λw1 h s1 L=>?_);have Z:=s.af h;obtain⟨u,v,f,ha,hx,-,hc⟩:=Z.nK (i:=o) oM;have M:l.aM.getD o 0=f:=by rw[QQ,hx];rfl
 refine⟨_,_,_,ae L rfl,u,v,ha,oM,oM,f,hc,al.eT (λx=>Ok.mk ⟨?_,h⟩) (λx=>?_)⟩
 ·unfold aq.mr;simp only[M,x];rfl
 have y:=r.af h;have b:∀{z:Bool} {w':World},ai w w'->(match S.get (o,f)with
  |none=>false
  |some P=>decide (P.aC<l.aC)&&(List.range P.aM.length).all λi=>decide (P.aM.getD i 0<=l.aM.getD i 0))=z->Ok (λj w'=>j= .bool (S.mr l o)/\ai w w') (.returned (.bool z)) w':=λ{z w'} hg hy=>by
  refine Ok.mk ⟨?_,hg⟩;unfold aq.mr;simp only[M];rw[<-hy,show(f==0)=false by simpa using x]
  rfl
 refine⟨p,0,rfl,_,ae y.at' rfl,jN (enc:=FZ) (k:=((o:Int),f)) TG Zf y.map ?_⟩;rcases y.look t (o,f)with⟨A,g⟩|⟨j,P,A,g,N,k,O,rfl,a0,b2⟩
 ·rw[A]
  refine cg (sO sS none 0 0) ⟨_,rfl,PA.mk λw2 B s2 C=>aD (bg sS none 0 0) C rfl λE H s3 I=>al.tt rfl (b (h.then ((B.then (aj.refl _)).new H λu hb=>.inr oM)) ?_)⟩;rw[g]
 ·rw[A]
  refine cg (sO P N k O) ⟨_,rfl,PA.mk λw2 B s2 C=>aD (bg P N k O) C rfl λE H s3 I=>al.ff rfl ?_⟩;have J:ai w1 E:=(B.then (aj.refl _)).new H λu hb=>.inr oM;have m:=h.then J;have Q:=J.get L id;have a1:=aq.get_some g;have b3:P.aM.length=S.n:=by have:=jP (t.XN P a1.1);omega
  refine⟨_,ae I rfl,_,ae Q rfl,al.dec (λhl=>b m ?_) (λhl=>?_)⟩
  ·rw[g]
   simp only[Bool.and_eq_false_iff,decide_eq_false_iff_not];left;omega
  have a2:=s.af m;have R:=a0.af J;have b6:=R.len;refine⟨_,_,_,ae I rfl,λT i w'=>∃n:Nat,i=n/\n<=k/\T=k-n/\(∀e,e<n->P.aM.getD e 0<=l.aM.getD e 0)/\E=w',⟨_,0,rfl,Qj _,rfl,λe K=>oM,rfl⟩,?_⟩;rintro T i _ _ ⟨n,rfl,hj,rfl,U,rfl⟩;refine al.dec (λb7=>?_) (λb8=>?_)
  ·obtain⟨b4,o4,V,a3,a4,-,a5⟩:=R.nK (i:=n) oM
   obtain⟨b5,o5,W,a6,a7,-,a8⟩:=a2.nK (i:=n) oM;have X:P.aM.getD n 0=V:=by rw[QQ,a4];rfl
   have Y:l.aM.getD n 0=W:=by rw[QQ,a7];rfl
   refine⟨b4,o4,a3,oM,oM,V,a5,_,_,_,ae Q rfl,b5,o5,a6,oM,oM,W,a8,al.dec (λa9=>b m ?_) (λb9=>?_)⟩
   ·rw[g]
    simp only[Bool.and_eq_false_iff];right;rw[List.all_eq_false];exact⟨n,by simp;omega,by rw[X,Y];simpa using a9⟩
   ·refine⟨_,oM,n+1,an oM,oM,rfl,λe K=>?_,rfl⟩
    by_cases b0:e=n
    ·subst b0;rw[X,Y];omega
    ·exact U e oM
  ·refine b m ?_
   rw[g];simp only[QK,ZY,Zk];exact⟨oM,λe K=>U e (by simp at K;omega)⟩
def Uk(d:cM w p F S)(j:Int×Int):
  bn 284 #[RK p,FZ j] w (Ok λz w'=>∃b c e G,z= .tuple #[lg ((S.get j).getD sS) b c e,.bool (S.get j).isSome]/\Row aO 8 w' G b c ((S.get j).getD sS).aM/\(∀n,G n->w.heap.size<=n/\n<w'.heap.size)/\ai w w'):=by
 obtain⟨L,q,d⟩:=d;obtain⟨h,i⟩:=j;refine x_ (PA.mk λw1 M s1 k=>PA.mk λA B s2 u=>λl C=>?_);have v:ai A l:=C.keep;have s3:l.heap.size=A.heap.size:=by rw[C.heap]
 have k:=v.get (B.get k id) id;have u:=v.get u id;have E:=(M.then B).then v;have x:=d.af E;have a2:=d.map.lt;have a3:=az d.at';obtain⟨a,b,c,e,n,f,g,H,N,O⟩:∃(a:ah) (b:be) (c e:Nat) (n:Bool),(au q.l (h,i)).getD (lg sS none 0 0)=lg a b c e/\(au q.l (h,i)).isSome=n/\(S.get (h,i)).getD sS=a/\(S.get (h,i)).isSome=n/\Row aO 8 l q.D b c a.aM:=by
  rcases x.look L (h,i)with⟨f,g⟩|⟨z,Q,f,g,R,T,U,rfl,V,a4⟩
  ·exact⟨sS,none,0,0,false,by rw[f];rfl,by rw[f];rfl,by rw[g];rfl,by rw[g];rfl,Row.nil _ _⟩
  ·exact⟨Q,R,T,U,true,by rw[f];rfl,by rw[f];rfl,by rw[g];rfl,by rw[g];rfl,V⟩
 have I:∀n,q.D n->n<w.heap.size:=λn P=>d.aE n (d.sub n (.inr (.inr (.inr P))));refine⟨λn=>n=l.heap.size,p,0,rfl,oM,_,ae x.at' rfl,oM,_,_,ae k rfl,ae k rfl,cg (sO a b c e) ⟨n,λw' W=>?_,PA.mk λw4 m s4 X=>⟨ai.keep m,aD (bg a b c e) X rfl λw5 o s5 Y=>⟨o,?_⟩⟩⟩⟩
 ·have:=eR TG Zf (x.map.keep W oM) (h,i) true
  rw[f,g]at this;exact this
 have Z:=(O.af m).keep o λn P hn=>by have:=I n P;omega
 refine ar (bg a b c e) Y (PC.ok (nJ Z λn P=>by have:=I n P;omega) ?_);rintro _ w6 ⟨r,s,t,G,rfl,a0,J,y⟩;have a1:=y.get (o.get (m.get u id) oM) id;have z6:=y.size;refine cg (sO a r s t) ⟨rfl,aD (bg a r s t) a1 rfl λw7 K s7 g7=>ar (bg a r s t) g7 (Ok.mk ⟨r,s,t,G,by rw[H,N],?_,?_,?_⟩)⟩
 ·rw[H];exact a0.keep K λn P hn=>by have:=J n P;omega
 ·intro n P;have:=J n P;omega
 ·exact(((E.then m).new o λn P=>.inr oM).then y).new K λn P=>.inr oM
end
section
variable {w w' w1:World} {p:Nat} {F T:ac} {S:aq} {q:TI}
def Ew{S:aq}:((List.range a).any λn=>!S.mr l n)=false↔∀n,n<a->S.mr l n=true:=by
 simp[List.any_eq_false]
def vo(b:cM w p F S){e:ah}{D:ac}(A:Row aO 8 w D d a e.aM)(hD:∀n,D n->n<w.heap.size/\¬F n)(he:e.Ok)(hl:S.l.length<4611686018427387904):
  bn 96 #[RK p,lg e d a c] w (Ok λB w'=>B= WP (S.add e).1/\∃C,cM w' p C (S.add e).2/\cd F w C w'):=by
 have fY:=b;obtain⟨E,q,b⟩:=b;have hN:=E.n;have b2:=b.len;have j4:=az b.at';have j5:=b.map.lt;have d5:=b.YS E;have f:∀{no:Int} {w':World},ai w w'->S.add e=(no,S)->Ok (λB w'=>B= WP (S.add e).1/\∃C,cM w' p C (S.add e).2/\cd F w C w') (.returned (WP no)) w':=λ{no w'} hg ha=>by
  refine Ok.mk ⟨by rw[ha],F,?_,ai.keep hg,λn P=>.inl P⟩;rw[ha];exact fY.af hg
 refine xL (PA.mk λw1 k1 s1 g1=>λw2 d2=>?_);have k2:ai w1 w2:=d2.keep;have s2:w2.heap.size=w1.heap.size:=by rw[d2.heap]
 have N:=k1.then k2;have g2:=k2.get g1 id;have h9:=b.af N;refine ar (bg e d a c) g2 ⟨p,0,rfl,_,_,_,ae h9.at' rfl,PC.ok (yS (A.af N) (by rw[b2];omega)) ?_⟩;rintro _ w3 ⟨rfl,O⟩;rw[b2];refine⟨_,rfl,al.eu (λH=>f (N.then O) ?_) (λQ=>?_)⟩
 ·rw[aq.add_def,Zx H]
 obtain⟨c1,c4,c3,c5,c6,c7,c8,c9,f0,j6⟩:=jP Q;obtain⟨o,m⟩:∃o:Nat,e.origin=o:=⟨e.origin.toNat,oM⟩
 have I:o<S.n:=oM
 intro w4 d4;have k4:ai w3 w4:=d4.keep;have s4:w4.heap.size=w3.heap.size:=by rw[d4.heap]
 have d6:=(N.then O).then k4;have z3:=O.size;have g4:=k4.get (O.get g2 id) id;have b3:=b.af d6;obtain⟨r,a5,n5,d8,n,l,J,h⟩:∃(r:ah) (d:be) (a c:Nat) (n:Bool),(au q.l (aZ e)).getD (lg sS none 0 0)=lg r d a c/\(au q.l (aZ e)).isSome=n/\(S.get (aZ e)).isSome=n:=by
  rcases b3.look E (aZ e)with⟨l,J⟩|⟨B,a0,l,J,b8,n3,c3,rfl,j7,j8⟩
  ·exact⟨sS,none,0,0,false,by rw[l];rfl,by rw[l];rfl,by rw[J];rfl⟩
  ·exact⟨a0,b8,n3,c3,true,by rw[l];rfl,by rw[l];rfl,by rw[J];rfl⟩
 refine⟨λn=>n=w4.heap.size,p,0,rfl,oM,_,ae b3.at' rfl,oM,_,_,ae g4 rfl,ae g4 rfl,cg (sO r a5 n5 d8) ⟨n,λw' K=>?_,PA.mk λw5 k5 s5 g5=>⟨ai.keep k5,aD (bg r a5 n5 d8) g5 rfl λw6 k6 s6 g6=>⟨k6,?_⟩⟩⟩⟩
 ·have:=eR TG Zf (b3.map.keep K oM) (aZ e) true
  rw[l,J]at this;exact this
 have R:ai w w6:=(d6.then k5).new k6 λn P=>.inr oM;have b4:=k6.get (k5.get g4 id) oM;have i0:=b.af R;refine al.mk (λs=>f R ?_) (λhf=>?_)
 ·rw[aq.add_def,Zq (by simpa using Q),Zx (by rw[h,s])]
 obtain⟨c0,o8,x8,i1,d9,-,i2⟩:=(d5.af R).nK (i:=o) oM;have e0:x8=(S.qG o:Int):=by rw[S.lC I]at d9;exact(XJ d9).symm
 subst e0;have j9:=S.Hp o;refine⟨_,ae b4 rfl,p,0,rfl,_,_,_,ae i0.at' rfl,_,ae b4 rfl,c0,o8,i1,c1,oM,_,by rw[m];exact i2,λw7 d7=>?_⟩;have k7:ai w6 w7:=d7.keep;have s7:w7.heap.size=w6.heap.size:=by rw[d7.heap]
 have b5:=R.then k7;rw[an oM];refine al.eu (λH=>f b5 ?_) (λe1=>?_)
 ·rw[aq.add_def,Zq (by simpa using Q),Zq (by rw[h,hf];simp),Zx]
  rw[m,Qx,S.qU I];simpa using H
 have i3:=b.af b5;have i4:=k7.get b4 id;have c2:e.seq=S.vec.getD e.origin.toNat 0+1:=by rw[m,Qx,S.qU I];simpa using e1
 have j:∀{a1:Int×aq},(if(List.range S.n).any λo=>!S.mr e o then((9:Int),S)else(0,⟨S.n,dE e S.l⟩))=a1->S.add e=a1:=λ{a1} A=>by
  rw[aq.add_def,Zq (by simpa using Q),Zq (by rw[h,hf];simp),Zq (by simpa using c2)];exact A
 refine⟨p,0,rfl,_,_,_,ae i3.at' rfl,λa3 i w'=>∃g:Nat,i=g/\g<=S.n/\a3=S.n-g/\(∀k,k<g->S.mr e k=true)/\ai w7 w',⟨_,0,rfl,Qj _,rfl,λk s=>oM,aj.refl _⟩,?_⟩;rintro a3 i _ w8 ⟨g,rfl,hj,rfl,a4,T⟩;have U:=b5.then T;have e2:=T.get i4 id;have z8:=T.size;rw[b2];refine al.dec (λk0=>?_) (λl0=>?_)
 ·refine ar (bg e d a c) e2 (PC.ok (TJ (fY.af U) (A.af U) he oM (o:=g) oM) ?_)
  rintro _ w9 ⟨rfl,k9⟩;refine⟨_,rfl,al.not (al.mk (λK=>?_) (λK=>f (U.then k9) (j (Zx ?_))))⟩
  ·refine⟨_,oM,g+1,an oM,oM,rfl,λk s=>?_,T.then k9⟩
   by_cases i5:k=g
   ·rw[i5];exact K
   ·exact a4 k oM
  ·rw[List.any_eq_true]
   exact⟨g,by simp;omega,by rw[K];rfl⟩
 ·have a6:=j (Zq (by rw[Bool.not_eq_true,Ew];intro k s;exact a4 k oM))
  intro e3 e4;have e5:ai w8 e3:=e4.keep;have l3:e3.heap.size=w8.heap.size:=by rw[e4.heap]
  have L:=U.then e5;have V:=e5.get e2 id;have e6:=b.af L;have i6:=(A.af L)
  refine⟨λn=>n=q.r,p,0,rfl,b.YQ,_,ae e6.at' rfl,oM,_,_,ae V rfl,ae V rfl,ar (bg e d a c) V (PC.ok (nJ i6 λn P=>by have:=(hD n P).1;have:=L.size;omega) ?_)⟩;rintro _ i7 ⟨b7,b9,d0,G,rfl,e7,hG,W⟩;have a7:=L.then W;have X:=b.af a7;have j3:=L.size;refine cg (sO e b7 b9 d0) ⟨rfl,ai.keep W,dG (enc:=FZ) (k:=aZ e) TG Zf X.map λe8 e9 t l4=>⟨t,λf2 g0=>?_⟩⟩;have u:ai e8 f2:=g0.keep;have l5:f2.heap.size=e8.heap.size:=by rw[g0.heap]
  have a8:=u.get (t.get X.at' b.YQ) id;have a9:=u.get (t.get (W.get V id) oM) id;have b0:=(X.vec.keep t λn P e=>b.XU.2 (e▸P)).af u;obtain⟨g3,g7,i8,a2,b1,-,g8⟩:=(b0.row (bytes:=8) dC (by rw[S.aY];unfold aP;omega)).nK (i:=o) oM;have d1:i8=(S.qG o:Int):=by rw[S.lC I]at b1;exact(XJ b1).symm
  subst d1;refine⟨p,0,rfl,_,_,_,ae a8 rfl,_,ae a9 rfl,g3,g7,a2,c1,oM,_,by rw[m];exact g8,g3,g7,a2,c1,oM,?_⟩;rw[m,Qx,an oM];refine TH b0 (by rw[S.aY];exact I) cS a2 λg9 h3 M l6=>λh4 h5=>?_;have v:ai g9 h4:=h5.keep;have l7:h4.heap.size=g9.heap.size:=by rw[h5.heap]
  have x:∀n,aI q.a=some n->q.V n:=λn P=>b.vec.self n P;have i9:¬aI q.a=some p:=λe=>b.XU.1 (x p e);have j0:¬aI q.a=some w.heap.size:=λe=>by have:=b.vec.aE _ (x _ e);omega
  have b6:=v.get (M.get a8 i9) id;have h6:=v.get (M.get a9 j0) id;refine⟨p,0,rfl,_,ae b6 rfl,_,ae h6 rfl,p,0,rfl,PS.mk b6 sM λh7 Y l8 j1=>?_⟩;have l9:=W.size;have j2:¬aI q.a=some q.r:=λe=>b.XU.2 (x _ e);refine Ok.mk ⟨by rw[a6],λn=>F n\/G n,?_,?_,?_⟩
  rotate_left
  ·have Z:aj F w h7:=((((ai.keep a7).then (t.mono λn _ P=>b.sub n (.inr (.inl P)))).then (ai.keep u)).then ((M.mono λn _ P=>b.sub n (.inr (.inr (.inl (x n P))))).then (ai.keep v))).then (Y.mono λn _ P=>b.sub n (.inl P))
   exact Z
  ·intro n P;rcases P with P|P
   ·exact .inl P
   ·exact .inr (by have:=hG n P;omega)
  have h8:=(aq.AT E he).1;rw[a6]at h8⊢;have y:∀n,G n->n≠p/\n≠q.r/\¬q.V n:=λn P=>by
   have:=hG n P;refine⟨oM,oM,λhv=>?_⟩;have:=b.vec.aE n hv;omega
  refine⟨h8,⟨q.a,q.n,q.c,q.r,q.V,λn=>q.D n\/G n,aJ q.l (aZ e) (lg e b7 b9 d0),aJ q.L (aZ e) e⟩,?_,?_,?_,?_,?_,?_,?_,?_,b.YQ,b.XU,?_,?_⟩
  ·have s:(if e.aC>S.top then e.aC else S.top)=max S.top e.aC:=by split<;>omega
   rw[j1,aq.VH,<-s];rfl
  ·rw[show aq.vec ⟨S.n,dE e S.l⟩=S.vec.set o ((S.qG o+1:Nat):Int) by rw[aq.N_ S e m];simp]
   exact(h3.af v).keep Y λn P e=>b.XU.1 (e▸P)
  ·exact(((e9.af u).keep M j2).af v).keep Y λe=>b.YQ e.symm
  ·have Z:aj (λn=>n=q.r\/aI q.a=some n\/n=p) i7 h7:=((t.mono λn _ P=>.inl P).then (ai.keep u)).then (((M.mono λn _ P=>.inr (.inl P)).then (ai.keep v)).then (Y.mono λn _ P=>.inr (.inr P)))
   have hd:∀n,q.D n\/G n->¬(n=q.r\/aI q.a=some n\/n=p):=by
    rintro n (P|P) (e|e|e)
    ·exact b.YR.2 (e▸P)
    ·exact b.ap4 n (x n e) P
    ·exact b.YR.1 (e▸P)
    ·exact(y n P).2.1 e
    ·exact(y n P).2.2 (x n e)
    ·exact(y n P).1 e
   refine fT.aJ ⟨b7,b9,d0,rfl,(e7.mono λn P=>.inr P).keep Z hd,he⟩ (X.rel.mono λB f1 hu=>(hu.mono λn P=>.inl P).keep Z hd)
  ·intro r h
   rcases fO h with rfl|h
   ·rfl
   ·exact b.key r h
  ·have d3:au q.L (aZ e)=none:=by
    rw[KJ E b.key b.YP b.tidy];have:=h.trans hf;simpa using this
   have:∀z:List ((Int×Int)×ah),au z (aZ e)=none->aJ z (aZ e) e=z++[(aZ e,e)]:=by
    intro z
    induction z with
    |nil=>intro _;rfl
    |cons a0 z ih=>
     intro hL;obtain⟨y1,y2⟩:=a0;unfold au at hL;unfold aJ;split at hL
     ·cases hL
     ·rename_i H
      rw[Zq H,ih hL];rfl
   rw[this _ d3,Q3];exact(List.perm_append_comm.trans (List.Perm.cons e b.YP)).trans (cP e S.l).symm
  ·intro n P
   rcases P with P|P
   ·have:=b.aE n P;omega
   ·have:=hG n P;omega
  ·rintro n (P|P|P|P|P)
   ·exact .inl (b.sub n (.inl P))
   ·exact .inl (b.sub n (.inr (.inl P)))
   ·exact .inl (b.sub n (.inr (.inr (.inl P))))
   ·exact .inl (b.sub n (.inr (.inr (.inr P))))
   ·exact .inr P
  ·refine⟨?_,?_⟩
   ·rintro(P|P)
    ·exact b.YR.1 P
    ·exact(y _ P).1 rfl
   ·rintro(P|P)
    ·exact b.YR.2 P
    ·exact(y _ P).2.1 rfl
  ·rintro n hv (P|P)
   ·exact b.ap4 n hv P
   ·exact(y _ P).2.2 hv
def VI{b n:TypeId}(f:ki h b n 1 8)(d:(h.info? n).bind (·.zero)=some (WP 0))(g:a<=c)(P:c*8<=aP){w:World}(e:∀w',aS aO n (·=w.heap.size) w' (UV w.heap.size) a c (List.replicate a 0)->ai w w'->w'.heap.size=w.heap.size+1->m (.slice (UV w.heap.size) a c) w'):
  aK h (Instr.makeSlice b (WP (a:Int)) (WP (c:Int))) w m t:=by
 unfold aP at P;obtain⟨l,o,i,j,p,q,y⟩:=f.info;have r:o= WP 0:=by
  rw[i]at d;simp only[Option.bind_some,j]at d;exact XJ d
 subst r;have k:=run_make (P:=h) w b n l _ f.under i j .i64 .i64 a c oM oM (by rw[q];omega) oM;rw[Qx,Qx,p,Nat.mul_one]at k;have s:ai w (w.alloc (.cells (madeCells (Value.int .i64 0).cells c) n)):=aj.alloc w _;have u:(madeCells (Value.int .i64 0).cells c).toList=List.replicate c (WP 0):=by
  unfold madeCells;rw[Array.toList_map];apply List.ext_getElem
  ·simp
  ·intro z A B
   simp[Value.cells,Nat.mod_one]
 refine aK.mk k (e _ ⟨⟨List.replicate a (WP 0),λ_=>False,⟨⟨by simp[aO,flat],.inr ⟨w.heap.size,c,_,rfl,Qj _,heap_alloc_new w _,g,by unfold maxLen;omega,by simp[size_madeCells,aO,flat],?_⟩⟩⟩,?_,λ_ e=>e.elim⟩,λv P=>by simpa[aI]using P.symm,λv P=>by subst P;simp⟩ s sM)
 ·rw[u]
  simp only[aO,flat,Nat.mul_one,List.take_replicate];rw[X2 g]
 ·exact lJ.2 ⟨by simp[ints],λC x=>by rw[List.eq_of_mem_replicate x];simp[aH]⟩
def Gv(f:a<=64):bn 93 #[WP (a:Int)] w (Ok λg w'=>∃p F,g= RK p/\cM w' p F ⟨a,[]⟩/\(∀n,F n->w.heap.size<=n)/\ai w w'):=by
 refine GU (VI vr kR (Q4 _) cw λw1 h i r=>⟨_,_,_,rfl,PA.mk λd e s j=>PA.mk λk b t l=>Ok.mk ⟨_,λn=>w.heap.size<=n/\n<k.heap.size,rfl,⟨aq.t_ f,⟨_,a,a,w1.heap.size,(·=w.heap.size),λ_=>False,[],[]⟩,l,?_,bX.new (b.get j id),trivial,sM,List.Perm.refl _,λn P=>P.2,?_,by show d.heap.size≠w1.heap.size;omega,⟨by show d.heap.size≠_;omega,by show w1.heap.size≠_;omega⟩,⟨id,id⟩,λ_ _ m=>m⟩,λn P=>P.1,(i.then e).then b⟩⟩)
 ·have o:aq.vec ⟨a,[]⟩=List.replicate a 0:=by
   apply X3;intro q
   by_cases c:q<a
   ·rw[aq.lC ⟨a,[]⟩ c];simp[c,aq.qG]
   ·rw[Q7 (by rw[aq.aY];exact Nat.le_of_not_lt c),Q7 dg]
  rw[o];exact(h.af e).af b
 ·rintro n (rfl|rfl|rfl|P)
  ·show _/\_;omega
  ·show _<=w1.heap.size/\w1.heap.size<_;omega
  ·omega
  ·exact P.elim
end
def fV{c:kq j}{p l:Nat}{r:List j}{bytes:Nat}{x:j}(k:aS c g f b d p l r)(J:ki h q g c.k bytes)(N:b.heap[a]? =some (.cells o g F)){D:ac}(z:c.rep b D x o.toList)(s:∀n,D n->n<b.heap.size/\aI d≠some n)(P:(r.length+1)*bytes<=aP)(O:r.length+1<=maxLen)(A:∀u i B v,aS c g v B u (p+1) i (r++[x])->aj (λH=>aI d=some H) b B->(∀n,v n->f n\/D n\/b.heap.size<=n)->m (.slice u (p+1) i) B):
  aK h (Builtin.append_ #[q,q] C #[.slice d p l,.slice (UV a) 1 1]) b m t:=by
 have K:=k.len J.pos;obtain⟨cs,Q,R,S,w⟩:=k.body;have V:=c.len z;refine vk J (news:=o.toList) R N (by rw[Qz oM]) oM (c.one z) (by rw[K];exact P) (by rw[K];exact O) λu T y L M E=>?_;have I:aj (λH=>aI d=some H) b y:=(M.mono λ_ _ k=>k.symm)
 let v:ac:=λn=>f n\/D n\/(b.heap.size<=n/\n<y.heap.size)
 have W:b.heap.size<=y.heap.size:=M.size;refine A u T y v ⟨⟨_,λn=>Q n\/D n,L,cf.append ((S.keep I λn P=>(w n P).2).mono λn P=>.inl P) (cf.one (c.mono (c.keep z I λn P=>(s n P).2) λn P=>.inr P)),?_⟩,?_,?_⟩ I ?_
 ·intro n P
  have X:n<b.heap.size:=P.elim (λe=>k.aE n (w n e).1) λe=>(s n e).1;refine⟨P.elim (λe=>.inl (w n e).1) λe=>.inr (.inl e),?_⟩;rcases E with E|E
  ·rw[E];exact P.elim (λe=>(w n e).2) λe=>(s n e).2
  ·rw[E];intro U;cases U;omega
 ·intro n P
  rcases E with E|E
  ·exact .inl (k.self n (E▸P))
  ·have:=L.lt P
   rw[E]at P;cases P;exact .inr (.inr ⟨oM,this⟩)
 ·rintro n (P|P|P)
  ·have:=k.aE n P;omega
  ·have:=(s n P).1;omega
  ·exact P.2
 ·rintro n (P|P|P)
  ·exact .inl P
  ·exact .inr (.inl P)
  ·exact .inr (.inr P.1)
def Ns{D h:ac}(c:Row aO 8 b D d a s)(e:Row aO 8 b h d a b2):s=b2:=by
 have o:=c.len;have p:=e.len;apply List.ext_getElem oM;intro i j k;obtain⟨q,r,t,l,f,-,m⟩:=c.nK (i:=i) oM;obtain⟨u,v,w,n,g,-,P⟩:=e.nK (i:=i) oM;rw[l]at n;cases n
 rw[m]at P;cases P
 rw[Qq j]at f;rw[Qq k]at g;rw[XJ f,XJ g]
section
def Df(b:World)(D:ac)(c:aq)(d:List Value)(n:ah):Prop:=∃P a e,d=[lg n P a e]/\Row aO 8 b D P a n.aM/\n.Ok/\n∈c.l
def sr{n P:Type}(b:n->P->Prop):List n->List P->Prop
 |[],[]=>True
 |a::c,d::e=>b a d/\sr b c e
 |_,_=>False
def sr.snoc{n P:Type}{a:n->P->Prop}{b:n}{c:P}(d:a b c):∀{e:List n} {f:List P},sr a e f->sr a (e++[b]) (f++[c])
 |[],[],_=>⟨d,trivial⟩
 |_::_,_::_,g=>⟨g.1,sr.snoc d g.2⟩
def sr.length{n P:Type}{c:n->P->Prop}:∀{a:List n} {b:List P},sr c a b->a.length=b.length
 |[],[],_=>rfl
 |_::_,_::_,d=>by simp[sr.length d.2]
def Df.unique{D:ac}(P:Df b D y a4 l)(a:Df b D y a4 L):l=L:=by
 obtain⟨e,f,g,rfl,c,-,-⟩:=P;obtain⟨h,i,j,n,d,-,-⟩:=a;simp only[aF,List.cons.injEq,Value.agg.injEq,Array.mk.injEq,Value.int.injEq,XX,and_true,true_and]at n;obtain⟨k,m,o,⟨rfl,rfl,rfl⟩,p,q,r,s,t,u⟩:=n;have:=Ns c d
 cases l;cases L;simp_all
def sr.unique{P:World}{D:ac}{a:aq}:∀{n:List (List Value)} {b c:List ah},sr (Df P D a) n b->sr (Df P D a) n c->b=c
 |[],[],[],_,_=>rfl
 |_::_,_::_,_::_,d,e=>by rw[d.1.unique e.1,sr.unique d.2 e.2]
variable {w w9 w1 A B:World} {p bo:Nat} {F:ac} {S:aq} {q:TI} {Pr:ah->Bool} {s:World×(ac)} {pre:List (List Value)}
structure SJ (w9:World) (bo:Nat) (D:ac) (S:aq) (Pr:ah->Bool) (s:World×(ac)) (pre:List (List Value)) (A:World):Prop where
 keep:aj (·=bo) w9 A
 own:aj (dY s.2) s.1 A
 out:∀b,s.2 b->b≠w9.heap.size/\b≠w9.heap.size+1/\b≠bo
 aE:∀b,s.2 b->b<A.heap.size
 eO:w9.heap.size+2<=A.heap.size
 nN:∃a n c G L,A.heap[bo]? =some (.cells #[.slice a n c] 36 (0,0))/\aS iz 82 G A a n c (L.filter Pr)/\(∀b,G b->w9.heap.size+2<=b/\¬s.2 b)/\sr (Df w9 D S) pre L/\L.length<=S.l.length
def SJ.af(P:SJ w9 bo q.D S Pr s pre A)(n:ai A B):SJ w9 bo q.D S Pr s pre B:=by
 obtain⟨a,b,c,d,e,f,g,h,G,i,j,k,l,m⟩:=P;exact⟨a.af n,b.af n,c,λo p=>Qk (d o p) n.size,Xx e n.size,f,g,h,G,i,n.get j id,k.af n,l,m⟩
def SJ.fv(t:bo<w9.heap.size)(b:SJ w9 bo q.D S Pr s pre A)(e:qY (w9.heap.size+1) A B):SJ w9 bo q.D S Pr s pre B:=by
 obtain⟨f,g,c,h,u,i,j,k,G,l,m,o,d,p⟩:=b;obtain⟨a,v⟩:=e;exact⟨f.new a λn P=>.inr oM,g.trans a (λ_ _ b=>b) λn _ P r=>(c n r).2.1 P,c,λn P=>by have:=h n P;omega,oM,i,j,k,G,l,a.get m oM,o.keep a λn P w=>by have:=(d n P).1;omega,d,p⟩
def SJ.re(n:SJ w9 bo q.D S Pr s pre A):SJ w9 bo q.D S Pr (A,s.2) pre A:=⟨n.keep,aj.refl _,n.out,n.aE,n.eO,n.nN⟩
def TK{R:bc}(c1:bo<w9.heap.size)(hS:S.OK)(e:sq w9 p F S q)(v:∃c a3,w9.heap[a]? =some (.cells #[.map (some q.r)] c a3))(w:a≠bo)(x:¬F bo)(y:∀A B,R A->aj (oZ w9) A B->R B)(hy:∀s pre m A,SJ w9 bo q.D S Pr s pre A->R A->uj [lg sS none 0 0] m->(pre.length<S.l.length/\∃c,Df w9 q.D S m c)->kV LL (w9.heap.size+1) m A λn z=>n=true/\SJ w9 bo q.D S Pr s (pre++[m]) z/\R z)(o:SJ w9 bo q.D S Pr (w9,no) [] w1)(a7:R w1):
  bn 191 #[.func (.yield (w9.heap.size+1)) #[] #[],RK a] w1 (Ok λa4 f=>R f/\∃s k,SJ w9 bo q.D S Pr s k f/\∃r,sr (Df w9 q.D S) k r/\r.Perm S.l):=by
 obtain⟨e2,f2,v⟩:=v;have c2:=e.map.lt;have a8:sq w1 p F S q:=e.keep o.keep λn P c=>x (c▸P);have hD:∀n,q.D n->n<w9.heap.size/\n≠bo:=λn P=>⟨e.aE n (e.sub n (.inr (.inr (.inr P)))),λc=>x (c▸e.sub n (.inr (.inr (.inr P))))⟩
 have c3:=o.eO;have c4:q.r≠bo:=λc=>x (c▸e.sub _ (.inr (.inl rfl)));refine dK ⟨_,ae (o.keep.get v w) rfl,mapRange TG a8.map λN b0 t s6=>?_⟩;obtain⟨j1,j2,j3,jd,j5,ja,jn,jc,G0,L0,j4,O,Q,j8⟩:=o;have b1:SJ w9 bo q.D S Pr (N,λn=>n=w1.heap.size\/n=q.r) [] N:=by
  refine⟨j1.af t,aj.refl _,λn P=>by rcases P with rfl|rfl<;>omega,λn P=>by rcases P with rfl|rfl<;>omega,oM,ja,jn,jc,G0,L0,t.get j4 id,O.af t,λn P=>⟨(Q n P).1,λc=>?_⟩,j8⟩;rcases c with rfl|rfl
  ·have:=O.aE _ P;omega
  ·have:=(Q _ P).1;omega
 refine⟨λT f=>∃pre left b j,T=left.length/\cW f w1.heap.size q.r FZ q.l left/\fT (VG w9 q.D) left b/\sr (Df w9 q.D S) pre j/\(j++b.map (·.2)).Perm S.l/\SJ w9 bo q.D S Pr (f,λn=>n=w1.heap.size\/n=q.r) pre f/\R f,
  ⟨_,[],q.l,q.L,[],rfl,b0,e.rel,trivial,by simpa using e.YP,b1,y _ _ a7 (ai.keep t)⟩,?_⟩
 rintro T _ c5 ⟨pre,left,b,j,rfl,hr,U,C,E,V,W⟩;refine oG hr (λh0=>.inl ⟨rfl,?_⟩) (λc6 a4 l1 l2 H a6 a9 b2 u c7=>.inr ⟨_,_,rfl,?_⟩)
 ·subst h0
  obtain rfl:b=[]:=by
   have:=U.length;simp at this;exact QW this.symm
  exact Ok.mk ⟨W,_,pre,V,j,C,by simpa using E⟩
 subst a6;obtain⟨X,d,Y,rfl,⟨g,h,i,rfl,Z,a0⟩,b3⟩:=U.mid;have a1:d∈S.l:=E.mem_iff.1 sM;have a2:((j++[d])++(X++Y).map (·.2)).Perm S.l:=by
  refine List.Perm.trans ?_ E;simp only[Q3,QY,XQ,List.singleton_append];exact List.Perm.append_left _ List.perm_middle.symm
 have b4:pre.length<S.l.length:=by
  have I:=a2.length_eq;have w:=C.length;simp at I;omega
 have b5:SJ w9 bo q.D S Pr (H,λn=>n=w1.heap.size\/n=q.r) pre H:=by
  obtain⟨I,w,h3,hd,h5,g,h,i,G,r,h4,h6,h7,h8⟩:=V;exact⟨I.new u λn P=>.inr oM,aj.refl _,h3,λn P=>by have:=hd n P;omega,oM,g,h,i,G,r,u.get h4 (λc=>(h3 _ (.inl rfl)).2.2 c.symm),h6.keep u λn P c=>(h7 n P).2 (.inl c),h7,h8⟩
 have b6:=y _ _ W (u.mono λn _ P=>(⟨oM,oM⟩:oZ w9 n));refine rE b2 ⟨_,_,_,_,_,_,_,_,_,_,_,_,_,rfl,PA.mk λc8 J c9 b7=>aD (bg d g h i) b7 rfl λa5 K d0 b8=>ar (bg d g h i) b8 ⟨_,rfl,(hy _ pre _ a5 ((b5.af (J.new K λn P=>.inr oM)).re) ?_ ?_ ⟨b4,d,g,h,i,rfl,Z,a0,a1⟩).mono ?_⟩⟩
 ·exact y _ _ b6 (ai.keep (J.new K λn P=>.inr oM))
 ·exact λφ L=>L d.origin d.seq d.aC g h i d.a_ d.agg d.field d.op d.arg d.key
 ·rintro _ z ⟨rfl,l,b9⟩
  have c0:ai H a5:=J.new K λn P=>.inr oM;refine al.ff rfl ⟨_,?_,pre++[_],l1++l2,X++Y,j++[d],rfl,(a9.af c0).keep l.own (λM=>M (.inl rfl)) (λM=>M (.inr rfl)),b3,C.snoc ⟨g,h,i,rfl,Z,a0,a1⟩,a2,l.re,b9⟩;simp
def Dg(c:cM w p F S)(hl:S.l.length<=20000000)(hg:enters LL a=true)(hp:∀b i y M D w1,ai w w1->Row aO 8 w1 D i y b.aM->b.Ok->b∈S.l->bn a (o++ #[lg b i y M]++Y) w1 (Ok λz C=>z= .bool (Pr b)/\ai w1 C)):
  bn 86 #[RK p,.func (.func a) o Y] w (Ok (qh iz 82 w (S.l.filter Pr))):=by
 have fY:=c;obtain⟨W,q,c⟩:=c;refine vX (PA.mk λj k3 s3 g3=>PA.mk λN k4 s4 g4=>?_);have b4:=k3.then k4;have c7:=c.af b4;refine⟨p,0,rfl,_,ae c7.at' rfl,PC.ok (φ:=λz C=>z= .func (.func 191) #[] #[RK N.heap.size]/\(∃b c8,C.heap[N.heap.size]? =some (.cells #[.map (some q.r)] b c8))/\ai N C/\C.heap.size=N.heap.size+1)
  (dZ (PA.mk λw5 E s5 g5=>Ok.mk ⟨rfl,⟨_,_,g5⟩,E,s5⟩)) ?_⟩
 rintro _ w9 ⟨rfl,c9,X,s9⟩;have Z:=b4.then X;have b5:=c.af Z;have hw:=c.aE;have b6:=az c.at';have d0:=X.get (k4.get g3 id) id;have d1:=X.get g4 id;have b7:¬F j.heap.size:=λhf=>by have:=hw _ hf;omega
 have a0:j.heap.size<w9.heap.size:=oM
 refine⟨_,rfl,191,_,rfl,kR,World×(ac),(w9,no),SJ w9 j.heap.size q.D S Pr,λ_ _ _=>False,
  λpre vs=>pre.length<S.l.length/\∃b,Df w9 q.D S vs b,λf=>∃d,sr (Df w9 q.D S) f d/\d.Perm S.l,?_,λs pre A B k g=>k.fv a0 g,λ_ _ _ _ c _=>c,?_,?_,?_,trivial⟩
 ·intro w6 k6 s6
  exact⟨ai.keep k6,ai.keep k6,λP n=>n.elim,λP n=>n.elim,oM,none,0,0,λ_=>False,[],k6.get d1 id,aS.nil _,λP n=>n.elim,trivial,Qj _⟩
 ·rintro s pre A k f8 t1 t2 t3 r tn t t4 t5 t6 t7 t8 t9 ⟨f9,b,i,y,M,he,hr,O,a1⟩
  simp only[aF,List.cons.injEq,Value.agg.injEq,Array.mk.injEq,Value.int.injEq,XX,and_true,true_and]at he;obtain⟨rfl,rfl,rfl,⟨rfl,rfl,rfl⟩,rfl,rfl,rfl,rfl,rfl,rfl⟩:=he;refine PA.mk λg0 d2 g1 d3=>aD (bg b r tn t) d3 rfl λd4 d5 g2 d6=>?_;have k2:ai A d4:=d2.new d5 λP n=>.inr oM;refine⟨ai.keep k2,λb8 g=>?_⟩;have H:=(k.af k2).fv a0 g;have b9:=g.1.get d6 oM;have g6:=g.2;have c0:∀P,q.D P->P<w9.heap.size/\P≠j.heap.size:=λP n=>⟨b5.aE P (c.sub P (.inr (.inr (.inr n)))),λb=>b7 (b▸c.sub P (.inr (.inr (.inr n))))⟩
  have c1:=hr.keep H.keep λP n=>(c0 P n).2;have d7:ai w b8:=Z.new H.keep λP n=>.inr oM;refine⟨_,ae (H.keep.get d0 oM) rfl,ar (bg b r tn t) b9 ⟨a,o,Y,rfl,hg,PC.ok (hp b r tn t _ b8 d7 c1 O a1) ?_⟩⟩;rintro _ d8 ⟨rfl,a2⟩;refine⟨_,rfl,al.mk (λg=>λc2 d9=>?_) (λhf=>?_)⟩
  ·have e0:ai d8 c2:=d9.keep
   have Q:=a2.then e0;have e1:=H.af Q;obtain⟨I,R,J,u,h5,T,ln,lc,G,d,l,h,e,m,h9⟩:=e1;have e2:=c1.af Q;have b6:=m.length;refine⟨no,id,_,_,_,ae l rfl,ar (bg b r tn t) (Q.get b9 id) (PC.ok (nJ e2 λP n=>by have:=(c0 P n).1;omega) ?_)⟩;rintro _ g7 ⟨e3,cn,cc,G2,rfl,e4,U,a3⟩;have g8:=a3.size;refine⟨_,_,_,_,_,_,_,_,_,_,_,_,rfl,ai.keep a3,PA.mk λg9 a4 i0 e5=>⟨ai.keep a4,?_⟩⟩;have kk:=a3.then a4;refine fV (c:=iz) (h.af kk) Ik e5 (D:=G2) (x:=b) ⟨e3,cn,cc,rfl,e4.af a4,O⟩ (λP n=>⟨by have:=U P n;omega,λb=>by have:=U P n;have:=h.aE _ (h.self _ b);omega⟩) ?_ ?_ λa' K i1 F' e6 a5 c4=>⟨_,_,_,rfl,?_⟩
   ·have:=List.length_filter_le Pr d;unfold aP;omega
   ·have:=List.length_filter_le Pr d;unfold maxLen;omega
   have V:=h.self;have a6:¬aI T=some j.heap.size:=λb=>by have:=(e _ (V _ b)).1;omega
   have e7:=a5.get (kk.get l id) a6;refine PS.mk e7 sM λe8 c5 i2 e9=>?_;have E:aj (λP=>aI T=some P\/P=j.heap.size) c2 e8:=((ai.keep kk).then (a5.mono λP _ n=>.inl n)).then (c5.mono λP _ n=>.inr n);have i3:=a5.size;refine⟨(ai.keep Q).trans E (λ_ _ c=>c) λP _ n=>?_,?_⟩
   ·rcases n with n|rfl
    ·have:=(e _ (V _ n)).1;exact⟨oM,oM⟩
    ·exact⟨oM,oM⟩
   refine⟨I.new E ?_,R.trans E (λ_ _ c=>c) λP _ n v=>?_,J,λP n=>by have:=u P n;omega,oM,a',ln+1,K,F',d++[b],?_,?_,?_,m.snoc ⟨r,tn,t,rfl,hr,O,a1⟩,?_⟩
   ·rintro P (n|n)
    ·exact .inr (by have:=(e _ (V _ n)).1;omega)
    ·exact .inl n
   ·rcases n with n|n
    ·exact(e _ (V _ n)).2 v
    ·exact(J P v).2.2 n
   ·rw[e9];rfl
   ·have a7:(d++[b]).filter Pr=d.filter Pr++[b]:=by rw[List.filter_append];simp[g]
    rw[a7];refine e6.keep c5 λP n b=>?_;rcases c4 P n with n|n|n
    ·have:=(e P n).1;omega
    ·have:=U P n;omega
    ·omega
   ·intro P n
    rcases c4 P n with n|n|n
    ·exact e P n
    ·have:=U P n;exact⟨oM,λv=>by have:=u P v;omega⟩
    ·exact⟨oM,λv=>by have:=u P v;omega⟩
   ·simp;omega
  ·refine⟨ai.keep a2,?_⟩
   obtain⟨I,R,J,u,h5,T,ln,lc,G,d,l,h,e,m,h9⟩:=H.af a2;have b6:=m.length;refine⟨I,R,J,u,h5,T,ln,lc,G,d++[b],l,?_,e,m.snoc ⟨r,tn,t,rfl,hr,O,a1⟩,by simp;omega⟩;have a7:(d++[b]).filter Pr=d.filter Pr:=by rw[List.filter_append];simp[hf]
   rw[a7];exact h
 ·intro f0 Rx hR _ i4 hy w6 f1 f2
  refine Calls.mono (TK (R:=f0) a0 W b5 c9 oM b7 hR (λs pre vs A k f3 g hN=>(hy s pre vs A k f3 g hN).mono ?_) f1 f2) ?_
  ·rintro P A' (c|⟨-,x,c,-⟩)
   ·exact c
   ·exact c.elim
  ·rintro _ A' ⟨z,rfl,f4,s,f,a8,hT⟩
   exact⟨⟨z,rfl⟩,.inl ⟨f4,s,f,a8,hT⟩⟩
 ·rintro s f A k ⟨L',f5,f6⟩ hm
  obtain⟨I,R,J,u,h5,i,y,M,G,d,l,h,e,m,h9⟩:=k;obtain rfl:=sr.unique m f5;have a9:(d.filter Pr).Perm (S.l.filter Pr):=f6.filter _;refine⟨_,_,_,ae l rfl,PC.ok (KK h (by rw[a9.length_eq];exact Xx (List.length_filter_le ..) hl)) ?_⟩;rintro _ i5 ⟨rfl,l',L,b0,b1,b2⟩;have b3:=h.self;have a6:¬aI i=some j.heap.size:=λb=>by have:=(e _ (b3 _ b)).1;omega
  have f7:¬aI i=some w9.heap.size:=λb=>by have:=(e _ (b3 _ b)).1;omega
  refine⟨rfl,_,_,_,ae (b2.get l a6) rfl,b2.get hm f7,λi6 ⟨c6,i7⟩=>Ok.mk ?_⟩;have c3:=List.filter_sublist (p:=Pr) (l:=S.l);obtain rfl:l'=S.l.filter Pr:=Nt b0 (W.RA.sublist c3) (L.trans a9) (((L.trans a9).map aZ).nodup_iff.2 (W.ids.sublist (c3.map _)));refine⟨i,y,M,G,rfl,b1.keep c6 λP n b=>by have:=(e P n).1;omega,?_,λP n=>by have:=(e P n).1;omega⟩;exact((Z.new I λP n=>.inr oM).new b2 λP n=>.inr (by have:=(e P (b3 P n)).1;omega)).new c6 λP n=>.inr oM
end
end Go.Proofs.YtkpomgifkloklaaGreatDoor
namespace Go.aw
variable{s:List Int}{a:Nat}{f:ac}{d:be}{j:Type}{g:TypeId}{b:World}
def Row.jU{D:ac}(n:Row aO 8 b D d a s):Ints b d a s:=by
 have m:=n.len;refine⟨m,n.eO,λg o=>?_,λi g P=>?_⟩
 ·obtain⟨i,P,rfl⟩:=List.getElem_of_mem o
  obtain⟨h,j,p,f,c,k,l⟩:=n.nK (i:=i) oM;rw[Qq P]at c;rw[XJ c];exact k
 ·have r:=(Qv.1 P).1
  obtain⟨h,j,t,f,q,u,v,w⟩:=n.el i g P;obtain⟨x,y,p,e,c,k,l⟩:=n.nK (i:=i) oM;rw[P]at c;rw[f]at e;cases e
  exact⟨h,j,f,q,by rw[l,XJ c]⟩
def Own.take{b:World}{c:TypeId}{k:Nat}{d:be}{P e m:Nat}{cs:List Value}(f:Own b c k d P e cs)(g:m<=P):Own b c k d m e (cs.take (m*k)):=by
 have h:=f.length;have i:m*k<=P*k:=Q0 _ g;refine⟨⟨by rw[Qy,h];omega,?_⟩⟩;rcases f.row.2 with⟨n,rfl⟩|⟨j,l,a,n,o,p,t,q,r,s⟩
 ·obtain rfl:m=0:=oM
  exact .inl ⟨n,rfl⟩
 ·simp only[XX]at n
  refine .inr ⟨j,l,a,by rw[n.1,n.2.2],o,p,oM,q,r,?_⟩;rw[<-s,List.take_take,X2 i]
def aS.take{a:kq j}{c n m:Nat}{e:List j}(P:aS a g f b d c n e)(h:m<=c):aS a g f b d m n (e.take m):=by
 obtain⟨cs,D,i,k,l⟩:=P.body;exact⟨⟨_,D,i.take h,k.take m,l⟩,P.self,P.aE⟩
end Go.aw
namespace Go.Proofs.YtkpomgifkloklaaGreatDoor
section
open Go.aw
variable{e:Int}{s:List Int}{a c:Nat}{d:be}
section
variable {w w' w1:World} {p:Nat} {F T:ac} {S:aq} {q:TI}
def su(c:cM w p F S)(n:S.l.length<=20000000):bn 55 #[RK p] w (Ok (qh iz 82 w S.l)):=by
 refine xI (PC.ok (Dg c n (Pr:=λ_=>true) kR λg P a b D w1 h i j k=>?_) ?_)
 ·exact uA (PA.mk λl d m o=>Ok.mk ⟨rfl,d⟩)
 ·rintro _ q ⟨P,a,b,G,rfl,n,e,f⟩
  rw[List.filter_eq_self.2 sM]at n;exact⟨_,_,_,rfl,Ok.mk ⟨P,a,b,G,rfl,n,e,f⟩⟩
def zj(q:cM w p F S)(r:S.l.length<=20000000){D:ac}(t:Row aO 8 w D d a s):
  bn 103 #[RK p,.slice d a c,WP e] w (Ok (qh iz 82 w (S.missing s e))):=by
 refine rf (PA.mk λw1 g E u=>PC.ok (Dg (q.af g) r (Pr:=λn=>decide (max 0 (dH s n.origin)<n.seq)) kR λn j b k H I v J K L=>?_) ?_)
 ·refine px (PA.mk λl m M f=>λx y=>⟨no,id,?_⟩)
  have h:ai l x:=y.keep;have f:=h.get f id;have o:=v.then (m.then h);refine⟨_,ae f rfl,_,_,_,ae (o.get u id) rfl,_,ae f rfl,PC.ok (mM (t.jU.af (g.then o))) ?_⟩;rintro _ _ ⟨rfl,rfl⟩;refine⟨_,rfl,aj.refl _,Ok.mk ⟨?_,m.then h⟩⟩
  congr 1
  rw[decide_eq_decide];split<;>omega
 ·rintro _ l ⟨j,b,k,G,rfl,P,z,A⟩
  have N:=P.len dC;have O:=P.lL;have i:(if e>0 then e else 0)=max 0 e:=by split<;>omega
  refine⟨_,_,_,rfl,?_⟩;refine⟨by rw[i];split<;>omega,by rw[i];split<;>omega,Ok.mk ⟨j,_,k,G,rfl,?_,g.then z,λB C=>by have:=A B C;omega⟩⟩;rw[i];have:=P.take (m:=Int.toNat (if max 0 e<(b:Int)then max 0 e else(b:Int))) (by split<;>omega);unfold aq.missing;have n:(List.filter (λn=>decide (max 0 (dH s n.origin)<n.seq)) S.l).take (Int.toNat (if max 0 e<(b:Int)then max 0 e else(b:Int)))=(List.filter (λn=>decide (max 0 (dH s n.origin)<n.seq)) S.l).take (max 0 e).toNat:=by
   split
   ·rfl
   ·rw[Qz oM,Qz oM]
  rw[<-n];exact this
def zo{P:Type}(p:P->Bool):∀n:List P,n.find? p=(n.filter p).head?
 |[]=>rfl
 |x::n=>by
  rw[List.find?_cons,List.filter_cons]
  cases p x
  ·exact zo p n
  ·rfl
def QN(C:cM w p F S)(q:S.l.length<=20000000){key:Int}:
  bn 109 #[RK p,WP key] w (Ok λE w'=>∃r s H G,E= .tuple #[lg ((S.keyed key).getD sS) r s H,.bool (S.keyed key).isSome]/\Row aO 8 w' G r s ((S.keyed key).getD sS).aM/\(∀n,G n->w.heap.size<=n/\n<w'.heap.size)/\ai w w'):=by
 refine uB (PA.mk λw1 l Z t=>PA.mk λw2 i s2 I=>PC.ok (Dg ((C.af l).af i) q (Pr:=λP=>key !=0&&P.key==key) kR λP J K L D' M N hr u hm=>?_) ?_)
 ·refine rl (PA.mk λv c x e=>?_)
  have y:=(i.then N).then c;refine⟨_,ae (y.get t id) rfl,al.eu (λO=>⟨_,ae e rfl,_,ae (y.get t id) rfl,Ok.mk ⟨?_,c⟩⟩) (λu=>Ok.mk ⟨?_,c⟩)⟩
  ·rw[show(key !=0)=true by simpa using O];rfl
  ·rw[u];rfl
 ·rintro _ M ⟨J,K,L,G,rfl,a,m,z⟩
  have j:=a.len dC;have A:=m.get I id;have B:S.keyed key=(S.l.filter λP=>key !=0&&P.key==key).head? :=zo _ _;refine⟨_,_,_,rfl,al.eT (λQ=>?_) (λQ=>?_)⟩
  ·have:(S.l.filter λP=>key !=0&&P.key==key)=[]:=QW oM
   rw[B,this];refine aD (bg sS none 0 0) A rfl λv c x e=>ar (bg sS none 0 0) e (Ok.mk ⟨none,0,0,λ_=>False,rfl,Row.nil _ _,λn b=>b.elim,((l.then i).then m).new c λn b=>.inr oM⟩)
  ·cases k:S.l.filter λP=>key !=0&&P.key==key with
   |nil=>rw[k]at j;simp at j;omega
   |cons d R=>
    rw[k]at a j;have a0:(d::R).length<=20000000:=by rw[<-k];exact Xx (List.length_filter_le ..) q
    have T:=a.row (bytes:=96) dC cw;obtain⟨n,U,es,V,b,a1,W,f,g,h,rfl,X,a3⟩:=T.el 0 d rfl
    with_reducible (conv=>whnf)
    rw[B,k];refine⟨n,U,V,oM,by simp at j;omega,?_⟩;refine bJ (es:=aF d f g h) (k:=10) (bg d f g h) rfl (λY o=>?_) (aD (bg d f g h) A rfl λv c x e=>ar (bg d f g h) e (Ok.mk ⟨f,g,h,G,rfl,?_,?_,?_⟩))
    ·have:=W Y o
     simpa using this
    ·exact X.keep c λn b P=>by have:=z n b;omega
    ·intro n b;have:=z n b;have:=a.aE n b;omega
    ·exact((l.then i).then m).new c λn b=>.inr oM
end
end
section
open Go.aw
variable{e r:Int}{s:List Int}{a c:Nat}{d:be}{j:Type}
def Wu(P:a+c<4611686018427387904):PP .i64 (kU .u64 (PP .u64 (PP .i64 ((a:Int)+(c:Int)))) 1)=(((a+c)/2:Nat):Int):=by
 rw[wrap_i64 (x:=(a:Int)+c) cS];have n:PP .u64 ((a:Int)+(c:Int))=((a+c:Nat):Int):=by
  unfold PP;simp[IntKind.signed,IntKind.bits];omega
 rw[n,show(1:Int)=((1:Nat):Int)from rfl,OQ dC,wrap_i64 cS]
def posOf{n:Type}(P:n->Bool)(a:List n):Nat:=(a.takeWhile P).length
def AW(n:j->Bool)(P:List j):posOf n P<=P.length:=(List.takeWhile_sublist n).length_le
def AX{c:Type}{p:c->Bool}:∀{l:List c} {i:Nat},i<=l.length->(∀n x,n<i->l[n]? =some x->p x=true)->(∀x,l[i]? =some x->p x=false)->posOf p l=i
 |[],i,P,_,_=>by simp at P;subst P;rfl
 |x::l,0,_,_,e=>by
  have:=e x rfl;simp[posOf,this]
 |x::l,i+1,P,d,f=>by
  have g:=d 0 x oM rfl;have:=AX (p:=p) (l:=l) (i:=i) (by simpa using P) (λn a h b=>d (n+1) a oM (by simpa using b)) (λa b=>f a (by simpa using b));unfold posOf at this⊢;rw[List.takeWhile_cons,g];simp[this]
section
variable {w w':World} {D:ac}
def Wv{w:World}:bn 332 #[WP e] w (Ok λn w'=>n= .bool false/\w=w'):=ua (Ok.mk ⟨sM,rfl⟩)
def Rw{w:World}:bn 328 #[WP e,WP r] w (Ok λn w'=>n= .bool (decide (e<r))/\w=w'):=by
 refine AY (PC.ok isNaN ?_);rintro _ _ ⟨rfl,rfl⟩;exact⟨_,rfl,al.ff rfl (Ok.mk ⟨rfl,rfl⟩)⟩
abbrev xv(n:List Int):Prop:=n.Pairwise (·<·)
def ub(t:Row aO 8 w D d a s)(F:xv s):
  bn 294 #[.slice d a c,WP e] w (Ok λH w'=>H= .tuple #[WP (posOf (λn=>decide (n<e)) s:Nat),.bool (decide (e∈s))]/\w=w'):=by
 have N:=t.len;have I:=t.eO;unfold aP at I;have z:∀{i j:Nat} {n l:Int},s[i]? =some n->s[j]? =some l->i<=j->n<=l:=λ{i j n l} f m O=>by
  obtain⟨o,rfl⟩:=Qv.1 f;obtain⟨p,rfl⟩:=Qv.1 m;rcases Nat.lt_or_ge i j with h|h
  ·exact Int.le_of_lt (List.pairwise_iff_getElem.1 F i j o p h)
  ·obtain rfl:i=j:=oM
   exact Int.le_refl _
 refine jM ⟨λE i j w'=>∃P g:Nat,i=P/\j=g/\E=g-P/\P<=g/\g<=a/\(∀b n,b<P->s[b]? =some n->n<e)/\(∀b n,g<=b->s[b]? =some n->e<=n)/\w=w',
  ⟨_,0,a,rfl,rfl,rfl,oM,oM,λb n k=>oM,λb n k f=>by have:=(Qv.1 f).1;omega,rfl⟩,?_⟩
 rintro E _ _ _ _ ⟨P,g,rfl,rfl,rfl,Q,J,o,p,rfl⟩;refine al.dec (λR=>?_) (λS=>?_)
 ·rw[Wu oM]
  obtain⟨u,v,n,x,f,-,y⟩:=t.nK (i:=(P+g)/2) oM;refine⟨u,v,x,oM,oM,n,by rw[Qx];exact y,PC.ok Rw ?_⟩;rintro _ _ ⟨rfl,rfl⟩;refine⟨_,rfl,al.dec (λK=>⟨_,?_,(P+g)/2+1,g,an oM,rfl,rfl,oM,J,λb l k m=>?_,p,rfl⟩) (λK=>⟨_,?_,P,(P+g)/2,rfl,rfl,rfl,oM,oM,o,λb l k m=>?_,rfl⟩)⟩
  ·omega
  ·have:=z m f oM;omega
  ·omega
  ·have:=z f m k;omega
 ·obtain rfl:P=g:=oM
  have L:posOf (λn=>decide (n<e)) s=P:=AX oM (λb n k f=>by simpa using o b n k f) (λn f=>by have:=p P n (Q4 _) f;simp;omega);rw[L];have A:e∈s↔s[P]? =some e:=by
   constructor
   ·intro q
    obtain⟨b,k,rfl⟩:=List.getElem_of_mem q;have r:s[b]? =some s[b]:=Qq k;rcases Nat.lt_or_ge b P with h|h
    ·have:=o b _ h r;omega
    ·have B:P<s.length:=oM
     have T:=p P _ (Q4 _) (Qq B);have U:=z (Qq B) r h;rw[Qq B];congr 1;omega
   ·exact QZ
  refine al.dec (λM=>?_) (λM=>?_)
  ·obtain⟨u,v,n,x,f,-,y⟩:=t.nK (i:=P) oM
   refine⟨u,v,x,oM,oM,n,y,al.eT (λC=>Ok.mk ⟨?_,rfl⟩) (λC=>⟨u,v,x,oM,oM,n,y,PC.ok Wv ?_⟩)⟩
   ·rw[Zy (A.2 (C▸f))]
   ·rintro _ _ ⟨rfl,rfl⟩
    refine⟨_,rfl,al.ff rfl (Ok.mk ⟨?_,rfl⟩)⟩;rw[Xv];intro q;have:=A.1 q;rw[f]at this;exact C (XJ this)
  ·refine Ok.mk ⟨?_,rfl⟩
   rw[Xv];intro q;have:=(Qv.1 (A.1 q)).1;omega
end
def Iv{P:Int}:∀{n:List Int},xv n->P∉n->qO P n=n.take (posOf (λy=>decide (y<P)) n)++P::n.drop (posOf (λy=>decide (y<P)) n)
 |[],_,_=>rfl
 |y::n,c,a=>by
  obtain⟨e,d⟩:=List.pairwise_cons.1 c;simp only[Q2,not_or]at a;unfold qO posOf
  by_cases b:P<y
  ·rw[Zx b,List.takeWhile_cons,Xv oM];rfl
  ·rw[Zq b,Zq a.1,List.takeWhile_cons,Zy (show y<P by omega),Iv d a.2];rfl
def vl{a:Int}:∀{n:List Int},a∈n->xv n->qO a n=n
 |y::n,P,b=>by
  obtain⟨c,d⟩:=List.pairwise_cons.1 b;unfold qO;rcases Q2.1 P with rfl|P
  ·rw[Zq oM,Zx rfl]
  ·have:=c a P
   rw[Zq oM,Zq oM,vl P d]
def Iw{a n:Int}:∀{P:List Int},n∈qO a P↔n=a\/n∈P
 |[]=>by simp[qO]
 |y::P=>by
  unfold qO;split
  ·simp
  ·split
   ·rename_i h;subst h;simp
   ·simp only[Q2,Iw]
    constructor
    ·rintro(h|h|h)<;>simp[h]
    ·rintro(h|h|h)<;>simp[h]
def EC{d:Int}:∀{P:List Int},xv P->xv (qO d P)
 |[],_=>List.pairwise_singleton ..
 |y::P,a=>by
  obtain⟨c,e⟩:=List.pairwise_cons.1 a;unfold qO;split
  ·rename_i f
   exact List.pairwise_cons.2 ⟨λb n=>by
    rcases Q2.1 n with rfl|n
    ·exact f
    ·have:=c b n;omega,a⟩
  ·split
   ·exact a
   ·refine List.pairwise_cons.2 ⟨λb n=>?_,EC e⟩
    rcases Iw.1 n with rfl|n
    ·omega
    ·exact c b n
def NF{P:Int}:∀{n:List Int},xv n->P∈n->(n.filter λy=>y !=P)=n.eraseIdx (posOf (λy=>decide (y<P)) n)/\posOf (λy=>decide (y<P)) n<n.length
 |y::n,e,b=>by
  obtain⟨d,f⟩:=List.pairwise_cons.1 e;rcases Q2.1 b with rfl|b
  ·have c:posOf (λy=>decide (y<P)) (P::n)=0:=by simp[posOf]
   rw[c];refine⟨?_,sM⟩;rw[List.filter_cons_of_neg sM,List.eraseIdx_zero,List.tail_cons];refine List.filter_eq_self.2 λa g=>?_;have:=d a g;simp;omega
  ·have h:=d P b
   obtain⟨i,j⟩:=NF f b;have c:posOf (λa=>decide (a<P)) (y::n)=posOf (λa=>decide (a<P)) n+1:=by simp[posOf,h]
   rw[c,List.filter_cons_of_pos dg,List.eraseIdx_cons_succ,i];exact⟨rfl,by simp;exact j⟩
def Ix(n:e∉s):(s.filter λP=>P !=e)=s:=List.filter_eq_self.2 λb a=>by
 simp only[bne_iff_ne,ne_eq];rintro rfl;exact n a
end
end Go.Proofs.YtkpomgifkloklaaGreatDoor
namespace Go.aw
open Go
variable{B:ba}{I a c i p:Nat}{f:ac}{U Z:Operand}{d v:be}{j:Type}{g q:TypeId}{m t:am}{b:World}{z:bc}
def xA{k:Program}{f bytes:Nat}{e:j->List Value}{l:j->Prop}{hl hone}(r:ki k g q f bytes)(H:0<bytes){i:List j}{D:ac}(h:Row (flat f e l hl hone) bytes b D d a i)(s:∀n,D n->n<b.heap.size)(u:∀v w,qh (flat f e l hl hone) q b i v w->B (.returned v) w):
  aK k (do eqGuard .eql g U Z (.slice d a c) (.slice none 0 0);binOp .eql g (.slice d a c) (.slice none 0 0)) b (λI o=>∃(x:Bool),I= .bool x/\al x (B (.returned (.slice none 0 0)) o) (PA o (.cells #[] q) λJ=>
   aK k (Builtin.append_ #[g,g] g #[.slice (UV o.heap.size) 0 0,.slice d a c]) J (λK L=>∃(y:be) (z:Nat) (A:Nat),K= .slice y z A/\B (.returned (.slice y z A)) L) m)) t:=by
 have C:=h.len;have P:=h.eO;refine lx r.under ⟨_,rfl,al.mk (λp=>?_) (λp=>PA.mk λM E a0 N=>?_)⟩
 ·have:i=[]:=by
   cases d with
   |none=>
    cases i with
    |nil=>rfl
    |cons U a1=>obtain⟨n,O,es,Q,_⟩:=h.el 0 U rfl;cases Q
   |some R=>cases p
  subst this;exact u _ _ ⟨none,0,0,λ_=>False,rfl,aS.nil b,aj.refl _,λ_ h=>h.elim⟩
 ·cases d with
  |none=>cases p
  |some R=>
   have S:aS (flat f e l hl hone) q (·=b.heap.size) M (UV b.heap.size) 0 0 []:=
    ⟨⟨[],λ_=>False,Own.AU (cur:= #[]) N sM (Qj _),rfl,λ_ h=>h.elim⟩,λn P=>by simpa[aI]using P.symm,λn P=>oM⟩
   have T:a<=maxLen:=by
    unfold aP at P;unfold maxLen;have:a*1<=a*bytes:=Nat.mul_le_mul_left _ H;omega
   refine lW S r (D:=D) (h.af E) (λn P=>⟨by have:=s n P;omega,by have:=s n P;simp only[aI];intro q;cases q;omega⟩) (by rw[ZQ,Xz,<-C];exact P) (by rw[ZQ,Xz,<-C];exact T) λF V w2 F' W X _ Y=>?_;refine⟨_,_,_,rfl,u _ _ ⟨F,_,V,λn=>aI F=some n,rfl,by have h:=W.alone;rw[List.nil_append]at h;exact h,E.new X λn P=>.inr ?_,λn P=>?_⟩⟩
   ·simp only[aI,Q1]at P;omega
   ·rcases Y n P with h|h<;>omega
structure Bx (α:Type) where
 x:α
 a:be
 n:Nat
 c:Nat
structure fw (α β:Type) where
 k:Nat
 ci:kq β
 ib:Nat
 inner:α->List β
 hd:α->be->Nat->Nat->List Value
 ok:α->Prop
 hl:∀x a n c,(hd x a n c).length=k
 h1:∀x a n c,∀u∈hd x a n c,u.oneCell'=true
 o:Nat
 ho:o<k
 fY:∀x a n c a' n' c',(hd x a n c).set o (.slice a' n' c')=hd x a' n' c'
section
variable {α β:Type} (N:fw α β)
def fw.kO:kq (Bx α):=flat N.k (λn=>N.hd n.x n.a n.n n.c) (λ_=>True) (λn=>N.hl ..) (λn=>N.h1 n.x n.a n.n n.c)
def fw.OV:kq α where
 k:=N.k
 rep:=λh D c cs=>∃n P a,cs=N.hd c n P a/\Row N.ci N.ib h D n P (N.inner c)/\N.ok c
 keep:=λ⟨n,P,a,b,d,e⟩ i f=>⟨n,P,a,b,d.keep i f,e⟩
 mono:=λ⟨n,P,a,b,d,e⟩ f=>⟨n,P,a,b,d.mono f,e⟩
 len:=λ⟨n,P,a,b,_,_⟩=>by rw[b];exact N.hl ..
 one:=λ⟨n,P,a,b,_,_⟩ j g=>by rw[b]at g;exact N.h1 _ _ _ _ j g
variable {N} {w w':World} {D:ac}
def fw.In(N:fw α β)(w:World)(D:ac)(n:Bx α):Prop:=Row N.ci N.ib w D n.a n.n (N.inner n.x)/\N.ok n.x
def fw.In.keep{S:ac}{n:Bx α}(P:N.In w D n)(a:aj S w w')(b:∀n,D n->¬S n):N.In w' D n:=⟨P.1.keep a b,P.2⟩
def fw.In.mono{n:Bx α}(P:N.In w D n)(a:∀n,D n->f n):N.In w f n:=⟨P.1.mono a,P.2⟩
def fw.aA:∀{P:List α} {cs:List Value},cf N.OV w D P cs->∃n:List (Bx α),n.map (·.x)=P/\cf N.kO w D n cs/\∀a∈n,N.In w D a
 |[],_,c=>⟨[],rfl,c,sM⟩
 |x::P,_,⟨d,e,f,⟨g,h,i,j,k,l⟩,m⟩=>by
  obtain⟨n,o,p,q⟩:=fw.aA m;refine⟨⟨x,g,h,i⟩::n,by simp[o],⟨d,e,f,⟨j,trivial⟩,p⟩,λa b=>?_⟩;rcases Q2.1 b with rfl|b
  ·exact⟨k,l⟩
  ·exact q a b
def fw.Tk{a:ac}:∀{n:List (Bx α)} {cs:List Value},cf N.kO w a n cs->(∀b∈n,N.In w D b)->cf N.OV w D (n.map (·.x)) cs
 |[],_,c,_=>c
 |b::n,_,⟨d,e,f,⟨g,_⟩,h⟩,P=>⟨d,e,f,⟨b.a,b.n,b.c,g,P b (QV ..)⟩,fw.Tk h λi j=>P i (QJ _ j)⟩
def fw.boxes{bytes:Nat}{b:List α}(c:Row N.OV bytes w D d a b):∃n:List (Bx α),n.map (·.x)=b/\Row N.kO bytes w D d a n/\∀h∈n,N.In w D h:=by
 obtain⟨cs,m,o⟩:=c.aA;obtain⟨n,i,p,q⟩:=fw.aA m;have e:n.length=b.length:=by rw[<-i];simp
 have r:0<N.OV.k:=Nat.lt_of_le_of_lt (Qj _) N.ho;refine⟨n,i,⟨by rw[e];exact c.len,c.eO,λB h f=>?_⟩,q⟩;have s:b≠[]:=by rintro rfl;rw[ZQ]at e;rw[QW e]at f;simp at f
 obtain⟨t,g,u,v,x,y⟩:=o s r;obtain⟨j,z,k⟩:=p.at f;refine⟨t,g,j,u,v,x,λl A=>?_,k⟩;have C:=N.kO.len k;have P:=z l A;rw[Qq (show l<j.length by omega)]at P⊢;rw[Nat.add_assoc];exact y _ _ P
def fw.unbox{b:List (Bx α)}(i:aS N.kO g f w d a c b)(P:∀n∈b,N.In w D n)(e:∀n,D n->n<w.heap.size/\aI d≠some n):aS N.OV g (λn=>aI d=some n\/D n) w d a c (b.map (·.x)):=by
 obtain⟨cs,k,h,j,l⟩:=i.body;refine⟨⟨cs,D,h,fw.Tk j P,λn P=>⟨.inr P,(e n P).2⟩⟩,λn P=>.inl P,λn P=>?_⟩;rcases P with P|P
 ·exact h.lt P
 ·exact(e n P).1
def fw.set{b:List (Bx α)}(k:aS N.kO g f w d a c b){n:Bx α}(l:b[i]? =some n){h P:Nat}(m:d=some ⟨h,P,none⟩)(e:∀j,aS N.kO g f j d a c (b.set i ⟨n.x,v,p,I⟩)->aj (λn=>aI d=some n) w j->j.heap.size=w.heap.size->z j):PS w ⟨h,P+i*N.k+N.o,none⟩ (.slice v p I) z:=
 aS.set (x':=⟨n.x,v,p,I⟩) k l N.ho (N.fY ..).symm m e
end
end Go.aw
namespace Go.Proofs.YtkpomgifkloklaaGreatDoor
open Go.aw
def ll.Ok(n:ll):Prop:=aH n.bO/\aH n.m_/\aH n.mq/\aH n.least
def oT(n:ll):List Value:=[WP n.bO,WP n.m_,WP n.mq,WP n.least]
def jz:kq ll:=flat 4 oT ll.Ok (λ_=>rfl) (λP a n=>by simp[oT]at n;rcases n with rfl|rfl|rfl|rfl<;>rfl)
def fB(n:bz)(P:be)(a b:Nat):List Value:=[WP n.kind,WP n.eg,.bool n.floor,.slice P a b]
def sP:kq bz where
 k:=4
 rep:=λh D c cs=>∃n P a,cs=fB c n P a/\Row jz 32 h D n P c.bN/\aH c.kind/\aH c.eg
 keep:=λ⟨n,P,a,b,d,e⟩ i f=>⟨n,P,a,b,d.keep i f,e⟩
 mono:=λ⟨n,P,a,b,d,e⟩ f=>⟨n,P,a,b,d.mono f,e⟩
 len:=λ⟨n,P,a,b,_,_⟩=>by rw[b];rfl
 one:=λ⟨n,P,a,b,_,_⟩ j g=>by
  rw[b]at g;simp[fB]at g;rcases g with rfl|rfl|rfl|rfl<;>rfl
def nQ:kq (List bz) where
 k:=1
 rep:=λf D g cs=>∃n P a,cs=[.slice n P a]/\Row sP 48 f D n P g
 keep:=λ⟨n,P,a,b,c⟩ h d=>⟨n,P,a,b,c.keep h d⟩
 mono:=λ⟨n,P,a,b,c⟩ d=>⟨n,P,a,b,c.mono d⟩
 len:=λ⟨n,P,a,b,_⟩=>by rw[b];rfl
 one:=λ⟨n,P,a,b,_⟩ i e=>by rw[b]at e;simp at e;subst e;rfl
def ko.Ok(n:ko):Prop:=aH n.a_/\aH n.field/\aH n.group/\aH n.Gj/\aH n.make
def oS(n:ko):List Value:=[WP n.a_,WP n.field,WP n.group,WP n.Gj,WP n.make]
def Cb:kq ko:=flat 5 oS ko.Ok (λ_=>rfl) (λP a n=>by simp[oS]at n;rcases n with rfl|rfl|rfl|rfl|rfl<;>rfl)
def TB:ki LL 121 134 4 32:=⟨kR,kR,dC⟩
def VV:ki LL 118 123 4 48:=⟨kR,kR,dC⟩
def Rt:ki LL 22 120 1 24:=⟨kR,kR,dC⟩
def Sr:ki LL 23 136 5 40:=⟨kR,kR,dC⟩
def Lg(n:ll):iQ LL 134 (oT n)=true:=kR
def gT(n:bz)(P:be)(a b:Nat):iQ LL 123 (fB n P a b)=true:=kR
def Kp(n:bz)(P:be)(a b:Nat):Uf (dv LL 123) (.agg (fB n P a b).toArray)=true:=kR
def qI(n:ko):iQ LL 136 (oS n)=true:=kR
def YN:bz:=⟨0,0,false,[]⟩
structure bt (w:World) (D:ac) (d:aU) (ta:be) (tn:Nat) (pa:be) (pn:Nat):Prop where
 a_:Row nQ 24 w D ta tn d.types
 EB:Row Cb 40 w D pa pn d.projs
variable{o:Array Value}{A:FuncId}{O e r:Int}{g3:List ll}{a c:Nat}{c5:bz}
section
variable {w w':World} {D D' S:ac} {d:aU} {ta pa:be} {tn tc pn pc:Nat}
def bt.keep(n:bt w D d ta tn pa pn)(P:aj S w w')(a:∀b,D b->¬S b):bt w' D d ta tn pa pn:=⟨n.a_.keep P a,n.EB.keep P a⟩
def bt.af(n:bt w D d ta tn pa pn)(P:ai w w'):bt w' D d ta tn pa pn:=n.keep P λ_ _ n=>n
def bt.mono(n:bt w D d ta tn pa pn)(P:∀a,D a->D' a):bt w D' d ta tn pa pn:=⟨n.a_.mono P,n.EB.mono P⟩
structure fE (w:World):Prop where
 kinds:∀i,i<6->w.cell? ⟨1,i,none⟩=some (WP (rO i))
 YO:∀i,i<5->w.cell? ⟨0,i,none⟩=some (WP (([0,2,14,6,6]:List Int).getD i 0))
 lt:1<w.heap.size/\0<w.heap.size
def fE.af(n:fE w)(a:ai w w'):fE w':=
 ⟨λP b=>(a.cell (a:=⟨1,P,none⟩) n.lt.1 id).trans (n.kinds P b),λP b=>(a.cell (a:=⟨0,P,none⟩) n.lt.2 id).trans (n.YO P b),
  Qk n.lt.1 a.size,Qk n.lt.2 a.size⟩
def bP:within e r O=true↔r<=e/\e<=O:=by simp[within]
def cE:bn 140 #[WP e,WP r,WP O] w (Ok λn w'=>n= .bool (within e r O)/\w=w'):=by
 refine zV (al.dec (λP=>Ok.mk ⟨?_,rfl⟩) (λP=>Ok.mk ⟨?_,rfl⟩))
 ·simp[within];omega
 ·simp[within];omega
def tY{b:be}(h:Row jz 32 w D b a g3)(e:∀n,D n->n<w.heap.size):
  bn 145 #[.slice b a c] w (Ok (qh jz 134 w g3)):=by
 have v:=h.len;have P:=h.eO;refine i_ (lx TB.under ⟨_,rfl,al.mk (λd=>?_) (λd=>PA.mk λi f x j=>?_)⟩)
 ·have:g3=[]:=by
   cases b with
   |none=>
    cases g3 with
    |nil=>rfl
    |cons k y=>obtain⟨n,l,z,m,_⟩:=h.el 0 k rfl;cases m
   |some o=>cases d
  subst this;exact Ok.mk ⟨none,0,0,λ_=>False,rfl,aS.nil w,aj.refl _,λ_ h=>h.elim⟩
 ·cases b with
  |none=>cases d
  |some o=>
   have p:aS jz 134 (·=w.heap.size) i (UV w.heap.size) 0 0 []:=
    ⟨⟨[],λ_=>False,Own.AU (cur:= #[]) j rfl (Qj _),rfl,λ_ h=>h.elim⟩,λn P=>by simpa[aI]using P.symm,λn P=>oM⟩
   refine lW p TB (D:=D) (h.af f) (λn P=>⟨by have:=e n P;omega,by have:=e n P;simp only[aI];intro q;cases q;omega⟩) dg (by unfold aP at P;unfold maxLen;simp;omega) λg r A B s t _ u=>?_;refine⟨_,_,_,rfl,Ok.mk ⟨g,_,r,λn=>aI g=some n,rfl,by have h:=s.alone;rw[List.nil_append]at h;exact h,f.new t λn P=>.inr ?_,λn P=>?_⟩⟩
   ·simp only[aI,Q1]at P;omega
   ·rcases u n P with h|h<;>omega
def KC{p:ll->Bool}{m:be}(h:Row jz 32 w D m a g3)(t:enters LL A=true)(u:∀b d,ai w d->bn A (#[]++ #[.agg (oT b).toArray]++o) d (Ok λe q=>e= .bool (p b)/\ai d q)):
  bn 144 #[.slice m a c,.func (.func A) #[] o] w (Ok λe w'=>e= .bool (g3.any p)/\ai w w'):=by
 have E:=h.len;have v:=h.eO;unfold aP at v;refine f_ (PC.ok (φ:=λe w'=>(∃P:Int,e= WP P/\(0<=P↔g3.any p=true))/\ai w w') (gK ⟨λb P w'=>∃n:Nat,P=n/\n<=a/\b=a-n/\(g3.take n).any p=false/\ai w w',
  ⟨_,0,rfl,Qj _,rfl,sM,aj.refl _⟩,?_⟩) ?_)
 ·rintro b P _ d ⟨n,rfl,F,rfl,i,f⟩
  refine al.dec (λx=>?_) (λx=>?_)
  ·obtain⟨y,j,k,H,rfl,_,_,r,z,rfl,_⟩:=(h.af f).vv (i:=n) oM
   refine⟨y,j,rfl,oM,oM,bJ (Lg k) rfl z ⟨A,_,_,rfl,t,PC.ok (u k d f) ?_⟩⟩;rintro _ q ⟨rfl,s⟩;refine⟨_,rfl,al.mk (λl=>?_) (λl=>?_)⟩
   ·exact Ok.mk ⟨⟨_,rfl,λ_=>List.any_eq_true.2 ⟨k,QZ r,l⟩,λ_=>oM⟩,f.then s⟩
   ·refine⟨_,oM,n+1,an oM,oM,rfl,?_,f.then s⟩
    rw[Qw,r,List.any_append,i];simp[l]
  ·rw[Qz oM]at i
   exact Ok.mk ⟨⟨_,rfl,λg=>oM,λg=>by rw[i]at g;cases g⟩,f⟩
 ·rintro _ w' ⟨⟨P,rfl,B⟩,C⟩
  exact⟨_,rfl,Ok.mk ⟨by cases g:g3.any p<;>simp[g]at B⊢<;>omega,C⟩⟩
def aU.xl(n:d.Ep e r=some c5):0<=e/\e<d.types.length/\∃P,d.types[e.toNat]? =some P/\d.at e=P/\0<=r/\r<P.length/\P[r.toNat]? =some c5:=by
 unfold aU.Ep at n;split at n
 ·rename_i a
  simp only[QK,bP]at a;have b:e.toNat<d.types.length:=oM
  have c:d.at e=d.types[e.toNat]:=by unfold aU.at;rw[Zx (bP.2 a.1)];simp[b]
  rw[c]at a n;exact⟨oM,oM,_,by simp[b],c,oM,oM,n⟩
 ·cases n
def pQ(m:bt w D d ta tn pa pn)(y:∀n,D n->n<w.heap.size):
  bn 92 #[.agg #[.slice ta tn tc,.slice pa pn pc],WP e,WP r] w (Ok λz w'=>ai w w'/\match d.Ep e r with
   |none=>z= .tuple #[.agg (fB YN none 0 0).toArray,.bool false]
   |some b=>∃A B C E,z= .tuple #[.agg (fB b A B C).toArray,.bool true]/\aS jz 134 E w' A B C b.bN/\(∀n,E n->w.heap.size<=n)):=by
 have o:=m.a_.len;have P:=m.a_.eO;unfold aP at P;have a:within e 0 ((tn:Int)-1)=false->d.Ep e r=none:=λF=>by unfold aU.Ep;rw[o]at F;rw[Zq (by simp[F])]
 refine Bz (PA.mk λw1 V s1 p=>PA.mk λw2 j s2 q=>⟨_,_,_,ae (j.get p id) rfl,PC.ok cE ?_⟩);rintro _ _ ⟨rfl,rfl⟩;rw[wrap_i64 cS];have c:=V.then j;refine⟨_,rfl,al.not (al.mk (λg=>?_) (λg=>?_))⟩
 rotate_left
 ·refine aD (cs:=fB YN none 0 0) (gT _ _ _ _) q rfl λH f I h=>ar (gT _ _ _ _) h (Ok.mk ⟨c.new f λn P=>.inr oM,?_⟩)
  rw[a g]
 have W:=bP.1 g;refine⟨_,_,_,ae (j.get p id) rfl,?_⟩;obtain⟨n,i,X,es,rfl,a8,a9,Y,Z,b0,n1,c1,rfl,s⟩:=((m.af c).a_).at (i:=e) oM oM;have J:=s.len;have a0:=s.eO;unfold aP at a0;have K:d.at e=X:=by
  unfold aU.at;rw[Zx (by rw[<-o];exact g),QQ,Y];rfl
 have t:=Z 0 dC;simp only[nQ,Nat.mul_one,Nat.add_zero]at t;refine⟨n,i,rfl,oM,oM,_,_,_,t,PC.ok cE ?_⟩;rintro _ _ ⟨rfl,rfl⟩;rw[wrap_i64 cS];refine⟨_,rfl,al.not (al.mk (λk=>?_) (λk=>?_))⟩
 rotate_left
 ·refine aD (cs:=fB YN none 0 0) (gT _ _ _ _) q rfl λH f I h=>ar (gT _ _ _ _) h (Ok.mk ⟨c.new f λn P=>.inr oM,?_⟩)
  rw[show d.Ep e r=none by unfold aU.Ep;rw[K,<-J,Zq (by simp[k])]]
 have a1:=bP.1 k;refine⟨_,_,_,ae (j.get p id) rfl,n,i,rfl,oM,oM,_,_,_,t,?_⟩;obtain⟨b2,a2,b,b1,rfl,b3,b4,a3,a4,L,M,N,rfl,hM,b5,b6⟩:=s.at (i:=r) oM oM;have a5:d.Ep e r=some b:=by unfold aU.Ep;rw[K,<-J,<-o,Zx (by simp[g,k])];exact a3
 refine⟨b2,a2,rfl,oM,oM,bJ (gT b L M N) rfl a4 (PA.mk λH f I h=>aD (gT b L M N) h rfl λw4 u s4 O=>⟨_,_,_,ae O rfl,PC.ok (tY ((hM.af f).keep u λn P Q=>by have:=y n P;have:=c.size;omega) λn P=>by have:=y n P;have:=c.size;omega) ?_⟩)⟩;rintro _ w5 ⟨R,S,T,F5,rfl,a6,l,v⟩;have z5:=l.size;refine⟨_,_,_,rfl,PS.mk (l.get O id) (by simp[fB]) λw6 x s6 g6=>ar (cs:=fB b R S T) (gT _ _ _ _) g6 (aD (gT _ _ _ _) (x.get (l.get (u.get (f.get q id) oM) id) oM) rfl λw7 U s7 g7=>ar (gT _ _ _ _) g7 (Ok.mk ⟨?_,?_⟩))⟩
 ·have a7:ai w w6:=((((c.then f).new u λn P=>.inr oM).then l)).new x λn P=>.inr oM
  exact a7.new U λn P=>.inr oM
 ·rw[a5]
  exact⟨R,S,T,F5,rfl,(a6.keep x λn P Q=>by have:=v n P;omega).keep U λn P Q=>by have:=v n P;omega,λn P=>by have:=v n P;have:=c.size;omega⟩
end
variable{b7:Int}{I d0 i p:Nat}{d e6 v:be}{L l:ah}
section
variable {w w':World} {D E:ac}
def v_(g:Row aO 8 w E v i L.aM):bn 331 #[lg l d a c,lg L v i p] w (Ok λh w'=>h= .bool (BM l L)/\ai w w'):=by
 refine BG (PA.mk λq j r n=>PA.mk λk e s P=>λm o=>⟨no,?_⟩);have b:ai k m:=o.keep;have n:=b.get (e.get n id) id;have P:=b.get P id;have f:=(j.then e).then b;refine⟨_,_,_,ae P rfl,_,ae n rfl,id,_,ae n rfl,PC.ok (mM (g.jU.af f)) ?_⟩;rintro _ _ ⟨rfl,rfl⟩;exact⟨_,rfl,aj.refl _,Ok.mk ⟨rfl,f⟩⟩
def Jp(j:Row aO 8 w D d a l.aM)(k:Row aO 8 w E v i L.aM):bn 292 #[lg l d a c,lg L v i p] w (Ok λm w'=>m= .bool (wg l L)/\ai w w'):=by
 refine DW (PA.mk λs o t n=>PA.mk λu h x e=>?_);have n:=h.get n id;have P:=o.then h;refine⟨_,_,ae n rfl,ae n rfl,_,_,ae e rfl,ae e rfl,NA.neq ⟨_,rfl,?_⟩⟩;have q:(!(l.origin==L.origin&&l.seq==L.seq))=(aZ l !=aZ L):=rfl;rw[q];refine al.mk (λf=>ar (bg l d a c) n (ar (bg L v i p) e (PC.ok (v_ (k.af P)) ?_))) (λf=>Ok.mk ⟨by unfold wg;rw[f];rfl,P⟩);rintro _ y ⟨rfl,b⟩;refine⟨_,rfl,al.not (al.mk (λg=>Ok.mk ⟨by unfold wg;rw[f,g];rfl,P.then b⟩) (λg=>ar (bg L v i p) (b.get e id) (ar (bg l d a c) (b.get n id) (PC.ok (v_ (j.af (P.then b))) ?_))))⟩;rintro _ z ⟨rfl,r⟩;exact⟨_,rfl,Ok.mk ⟨by unfold wg;rw[f,g];rfl,(P.then b).then r⟩⟩
def mP:KS LL 415 3:=⟨kR,kR,⟨ "op", "arg",kR,dC,dC⟩,kR,kR,kR⟩
abbrev fdV(n:bz)(P:be)(a b:Nat):Value:=.agg (fB n P a b).toArray
def ye:bn 291 #[fdV c5 d a c,WP e,WP r,WP O,WP b7] w (Ok λx w'=>x= .bool (fl c5 (e,r) (O,b7))/\ai w w'):=by
 refine uM (PA.mk λN C T E=>PA.mk λQ y U F=>PA.mk λV o W H=>PS.mk (o.get F id) sM λX p Y I=>PS.mk I sM λZ q s5 J=>PS.mk (q.get (p.get H oM) oM) sM λw6 s s6 K=>PS.mk K sM λt u s7 L=>?_);have R:ai w t:=(((((C.then y).then o).new p λh z=>.inr oM).new q λh z=>.inr oM).new s λh z=>.inr oM).new u λh z=>.inr oM;have S:=u.get (s.get (q.get (p.get (o.get (y.get E id) id) oM) oM) oM) oM;have P:t.heap[N.heap.size]? =some (.cells #[WP e,WP r] 415 (0,0)):=u.get (s.get J oM) oM;have b:t.heap[Q.heap.size]? =some (.cells #[WP O,WP b7] 415 (0,0)):=L
 clear E F H I J K L C y o p q s u
 have n:∀{h:Bool},fl c5 (e,r) (O,b7)=h->Ok (λx w'=>x= .bool (fl c5 (e,r) (O,b7))/\ai w w') (.returned (.bool h)) t:=λ{h} i=>Ok.mk ⟨by rw[i],R⟩;have M:(((e,r):Int×Int) !=(O,b7))= !(e==O&&r==b7):=rfl;refine⟨_,ae S rfl,al.eT (λf=>?_) (λf=>al.eT (λl=>?_) (λl=>al.eT (λA=>?_) (λA=>n ?_)))⟩
 ·refine⟨_,ae P rfl,al.eT (λg=>⟨_,ae b rfl,al.eT (λj=>⟨_,_,ae P rfl,ae P rfl,_,_,ae b rfl,ae b rfl,mP.neq ⟨_,rfl,n ?_⟩⟩) (λj=>n ?_)⟩) (λg=>n ?_)⟩
  ·unfold fl;rw[Zx f,M,show e=2 from g,show O=2 from j];rfl
  ·unfold fl;rw[Zx f,show e=2 from g,show(O==2)=false by simpa using j];rfl
  ·unfold fl;rw[Zx f,show(e==2)=false by simpa using g];rfl
 ·refine⟨_,ae P rfl,al.eT (λg=>⟨_,ae b rfl,al.eT (λj=>⟨_,_,ae P rfl,ae P rfl,_,_,ae b rfl,ae b rfl,mP.neq ⟨_,rfl,n ?_⟩⟩) (λj=>n ?_)⟩) (λg=>n ?_)⟩
  ·unfold fl;rw[Zq f,Zx l,M,show e=5 from g,show O=5 from j];rfl
  ·unfold fl;rw[Zq f,Zx l,show e=5 from g,show(O==5)=false by simpa using j];rfl
  ·unfold fl;rw[Zq f,Zx l,show(e==5)=false by simpa using g];rfl
 ·have m:fl c5 (e,r) (O,b7)=((e==3&&r==b7)&&(O==4&&b7==r)||(e==4&&r==b7)&&(O==3&&b7==r)):=by
   unfold fl;rw[Zq f,Zq l,Zx A];rfl
  refine⟨_,_,ae P rfl,ae P rfl,mP.eql ⟨_,rfl,al.mk (λv=>⟨_,_,ae b rfl,ae b rfl,mP.eql ⟨_,rfl,al.mk (λB=>n ?_) (λB=>?_)⟩⟩) (λv=>?_)⟩⟩
  ·rw[m,v,B];rfl
  ·have i:((e==3&&r==b7)&&(O==4&&b7==r))=false:=by rw[v,B];rfl
   exact⟨_,_,ae P rfl,ae P rfl,mP.eql ⟨_,rfl,al.mk (λk=>⟨_,_,ae b rfl,ae b rfl,mP.eql ⟨_,rfl,n (by rw[m,i,k];rfl)⟩⟩) (λk=>n (by rw[m,i,k];rfl))⟩⟩
  ·have i:((e==3&&r==b7)&&(O==4&&b7==r))=false:=by rw[v];rfl
   exact⟨_,_,ae P rfl,ae P rfl,mP.eql ⟨_,rfl,al.mk (λk=>⟨_,_,ae b rfl,ae b rfl,mP.eql ⟨_,rfl,n (by rw[m,i,k];rfl)⟩⟩) (λk=>n (by rw[m,i,k];rfl))⟩⟩
 ·unfold fl;rw[Zq f,Zq l,Zq A]
def BN{f:bz}(s:Row aO 8 w D v i l.aM)(t:Row aO 8 w E e6 I L.aM):
  bn 225 #[fdV f d a c,lg l v i p,lg L e6 I d0] w (Ok λu w'=>u= .bool (nw f l L)/\ai w w'):=by
 refine xX (PA.mk λC x F y=>PA.mk λH q J z=>PA.mk λA h K e=>?_);have j:=h.get (q.get y id) id;have g:=h.get z id;have b:=(x.then q).then h;refine⟨λr w'=>r=(f.eg==2||f.eg==3&&decide (L.arg<l.arg))/\A=w',?_,?_⟩
 ·refine⟨_,ae j rfl,al.eT (λn=>⟨by rw[show f.eg=2 from n];rfl,rfl⟩) (λn=>⟨_,ae j rfl,al.eT (λk=>⟨_,ae g rfl,_,ae e rfl,?_,rfl⟩) (λk=>⟨?_,rfl⟩)⟩)⟩
  ·rw[show f.eg=3 from k];rfl
  ·rw[show(f.eg==2)=false by simpa using n,show(f.eg==3)=false by simpa using k];rfl
 ·rintro r _ _ ⟨m,rfl⟩
  refine al.mk (λn=>?_) (λn=>Ok.mk ⟨by unfold nw;rw[<-m,n];rfl,b⟩);refine ar (gT f d a c) j ⟨_,ae g rfl,_,ae g rfl,_,ae e rfl,_,ae e rfl,PC.ok ye ?_⟩;rintro _ M ⟨rfl,P⟩;refine⟨_,rfl,al.mk (λo=>ar (bg l v i p) (P.get g id) (ar (bg L e6 I d0) (P.get e id) (PC.ok (Jp (s.af (b.then P)) (t.af (b.then P))) ?_))) (λo=>Ok.mk ⟨by unfold nw;rw[<-m,n,o];rfl,b.then P⟩)⟩;rintro _ N ⟨rfl,B⟩;exact⟨_,rfl,Ok.mk ⟨by unfold nw;rw[<-m,n,o];rfl,(b.then P).then B⟩⟩
end
def lN:fw cZ Int where
 k:=2
 ci:=aO
 ib:=8
 inner:=(·.set)
 hd:=λn P a b=>[WP n.n,.slice P a b]
 ok:=λn=>aH n.n/\xv n.set/\n.set.length<=64
 hl:=λ_ _ _ _=>rfl
 h1:=λn P a b d c=>by simp at c;rcases c with rfl|rfl<;>rfl
 o:=1
 ho:=dC
 fY:=λ_ _ _ _ _ _ _=>rfl
abbrev fy:kq cZ:=lN.OV
def RC:ki LL 40 268 2 32:=⟨kR,kR,dC⟩
abbrev Ul(n:Int):Nat:=if n=1 then 228 else if n=3 then 233 else if n=5 then 236 else 231
abbrev Y_(n:Int):Nat:=if n=1 then 229 else if n=2 then 232 else if n=3 then 234 else if n=4 then 235 else 237
def qR(n:Int):Value:=.agg #[.func (.func (Ul n)) #[] #[],.func (.func (Y_ n)) #[] #[]]
def A_:mZ LL 290 3 288 (.agg #[.nilFunc,.nilFunc]):=⟨kR,kR⟩
def lO:jt LL 3 (Value.int .i64):=Yc kR
variable{b4:List cZ}
section
variable {w w':World} {D E:ac}
def Ba:bn 174 #[] w (Ok λb w'=>∃a,b= .map (some a)/\bX w' a (Value.int .i64) [((1:Int),qR 1),(2,qR 2),(3,qR 3),(4,qR 4),(5,qR 5)]/\ai w w'):=by
 refine Gx (PA.mk λp c q d=>?_);refine dG (k:=(1:Int)) A_ lO (bX.new d) λr e f s=>dG (k:=(2:Int)) A_ lO e λt g h u=>dG (k:=(3:Int)) A_ lO g λv i j x=>dG (k:=(4:Int)) A_ lO i λy k l z=>dG (k:=(5:Int)) A_ lO k λA m o B=>Ok.mk ⟨_,rfl,m,?_⟩;exact((((c.new f λn P=>.inr oM).new h λn P=>.inr oM).new j λn P=>.inr oM).new l λn P=>.inr oM).new o λn P=>.inr oM
def NG(n:1<=e)(P:e<=5):au [((1:Int),qR 1),(2,qR 2),(3,qR 3),(4,qR 4),(5,qR 5)] e=some (qR e):=by
 have:e=1\/e=2\/e=3\/e=4\/e=5:=oM
 rcases this with rfl|rfl|rfl|rfl|rfl<;>rfl
def Yd(n:bz)(P:be)(a b:Nat)(c:be)(d e:Nat)(f arg:Int):List Value:=[WP n.kind,WP n.eg,.bool n.floor,.slice P a b,.slice c d e,WP f,WP arg]
abbrev Bb(n:bz)(P:be)(a b:Nat)(c:be)(d e:Nat)(f arg:Int):Value:=.agg (Yd n P a b c d e f arg).toArray
def vq(n:bz)(P:be)(a b:Nat)(c:be)(d e:Nat)(f arg:Int):iQ LL 293 (Yd n P a b c d e f arg)=true:=kR
variable {f:bz} {ma ca:be} {mn mc cn cc i:Nat} {arg:Int}
def iR(P:ca=some ⟨a,c,none⟩)(e:i<cn):bn 230 #[Bb f ma mn mc ca cn cc (i:Int) arg] w (Ok λb w'=>b= .pointer (some ⟨a,c+i*2,none⟩)/\ai w w'):=
 zG (PA.mk λg d h n=>⟨_,_,_,ae n rfl,_,ae n rfl,a,c,P,oM,oM,Ok.mk ⟨rfl,d⟩⟩)
def RD(d:List bz)(c:List cZ)(n b arg:Int):Bool:=
 let f:=d.getD n.toNat ⟨0,0,false,[]⟩
 let P:=c.getD n.toNat ⟨0,[]⟩
 if b=1 then(arg==0||NH P.n arg)&& !(f.floor&&decide (qm (P.n+arg)<0))
 else if b=3 then decide (arg∈P.set)||decide (P.set.length<64)
 else if b=5 then(let a:=f.bN.getD arg.toNat ⟨0,0,0,0⟩;P.n==a.bO&&(decide (a.mq<0)||decide (a.least<=(c.getD a.mq.toNat ⟨0,[]⟩).n)))
 else true
def Gy(P:List bz)(a:List cZ)(n b arg:Int):xz P a n b arg=if RD P a n b arg then 0 else 10:=rfl
def qJ{bytes:Nat}(e:Row fy bytes w D ca cn b4)(f:i<cn):∃n P a b c,ca=some ⟨n,P,none⟩/\n<w.heap.size/\D n/\w.cell? ⟨n,P+i*2,none⟩=some (WP (b4.getD i ⟨0,[]⟩).n)/\w.cell? ⟨n,P+i*2+1,none⟩=some (.slice a b c)/\Row aO 8 w D a b (b4.getD i ⟨0,[]⟩).set/\aH (b4.getD i ⟨0,[]⟩).n/\xv (b4.getD i ⟨0,[]⟩).set/\(b4.getD i ⟨0,[]⟩).set.length<=64:=by
 have g:=e.len;obtain⟨n,P,p,j,k,l,h,a,b,c,rfl,m,d⟩:=e.el i b4[i] (by simp[g▸f]);have o:b4.getD i ⟨0,[]⟩=b4[i]:=by simp[QQ,g▸f]
 rw[o];exact⟨n,P,a,b,c,j,k,l,by have:=h 0 dC;simpa[lN,fw.OV]using this,by have:=h 1 dC;simpa[lN,fw.OV]using this,m,d.1,d.2.1,d.2.2⟩
def RE:bn 293 #[WP e,WP r] w (Ok λn w'=>n= .bool (NH e r)/\w=w'):=Lf (Ok.mk ⟨rfl,rfl⟩)
def IB{bytes:Nat}(k:Row fy bytes w D ca cn b4)(g:i<cn):
  bn 228 #[Bb f ma mn mc ca cn cc (i:Int) arg] w (Ok λl w'=>l= .bool ((arg==0||NH (b4.getD i ⟨0,[]⟩).n arg)&& !(f.floor&&decide (qm ((b4.getD i ⟨0,[]⟩).n+arg)<0)))/\ai w w'):=by
 refine DA (PA.mk λs h t j=>ar (vq ..) j ?_);obtain⟨m,o,u,v,x,p,q,y,r,a,-⟩:=qJ (k.af h) g;refine PC.ok (iR p g) ?_;rintro _ z ⟨rfl,d⟩;have P:=d.get j id;have b:=h.then d;refine⟨_,rfl,_,_,rfl,_,(d.cell (a:=⟨m,o+i*2,none⟩) q id).trans r,_,ae P rfl,al.eT (λc=>⟨_,ae P rfl,al.mk (λn=>⟨_,ae P rfl,Ok.mk ⟨?_,b⟩⟩) (λn=>Ok.mk ⟨?_,b⟩)⟩) (λc=>⟨_,ae P rfl,PC.ok RE ?_⟩)⟩
 ·rw[show(arg==0)=true by simpa using c,n];rfl
 ·rw[show(arg==0)=true by simpa using c,n];rfl
 ·rintro _ _ ⟨rfl,rfl⟩
  have e:(arg==0)=false:=by simpa using c
  refine⟨_,rfl,al.mk (λa=>⟨_,ae P rfl,al.mk (λn=>⟨_,ae P rfl,Ok.mk ⟨?_,b⟩⟩) (λn=>Ok.mk ⟨?_,b⟩)⟩) (λa=>Ok.mk ⟨?_,b⟩)⟩
  ·rw[e,a,n];rfl
  ·rw[e,a,n];rfl
  ·rw[e,a];rfl
def IC{bytes:Nat}(m:Row fy bytes w D ca cn b4)(P:i<cn):
  bn 233 #[Bb f ma mn mc ca cn cc (i:Int) arg] w (Ok λo w'=>o= .bool (decide (arg∈(b4.getD i ⟨0,[]⟩).set)||decide ((b4.getD i ⟨0,[]⟩).set.length<64))/\ai w w'):=by
 refine DB (PA.mk λp q A r=>λs t=>⟨no,?_⟩);have c:ai p s:=t.keep;have a:=c.get r id;have b:=q.then c;obtain⟨d,e,B,C,E,g,h,F,H,u,j,-,v,-⟩:=qJ (m.af b) P;refine ar (vq ..) a ⟨id,_,ae a rfl,PC.ok (iR g P) ?_⟩;rintro _ I ⟨rfl,n⟩;have k:=(n.cell (a:=⟨d,e+i*2+1,none⟩) h id).trans u;refine⟨_,rfl,ai.keep n,_,_,rfl,_,_,_,k,PC.ok (ub (j.af n) v) ?_⟩;rintro _ _ ⟨rfl,rfl⟩;refine⟨_,_,rfl,aj.refl _,al.mk (λx=>Ok.mk ⟨by rw[x];rfl,b.then n⟩) (λy=>ar (vq ..) (n.get a id) (PC.ok (iR g P) ?_))⟩;rintro _ J ⟨rfl,l⟩;have z:=j.len;refine⟨_,rfl,_,_,rfl,_,_,_,(l.cell (a:=⟨d,e+i*2+1,none⟩) (Qk h n.size) id).trans k,Ok.mk ⟨?_,(b.then n).then l⟩⟩;rw[y,z]
 congr 1
 rw[Bool.false_or,decide_eq_decide];omega
def Gz{bytes:Nat}(m:Row fy bytes w D ca cn b4)(o:i<cn)(p:Row jz 32 w E ma mn f.bN)(h0:0<=arg)(h1:arg<(mn:Int))(q:((f.bN.getD arg.toNat ⟨0,0,0,0⟩).mq)<(cn:Int)):
  bn 236 #[Bb f ma mn mc ca cn cc (i:Int) arg] w (Ok λC w'=>C= .bool (let n:=f.bN.getD arg.toNat ⟨0,0,0,0⟩;(b4.getD i ⟨0,[]⟩).n==n.bO&&(decide (n.mq<0)||decide (n.least<=(b4.getD n.mq.toNat ⟨0,[]⟩).n)))/\ai w w'):=by
 refine Bc (PA.mk λF r s1 e=>?_);have a0:=p.len;obtain⟨P,rfl⟩:∃P:Nat,arg=P:=⟨arg.toNat,oM⟩
 have s:P<f.bN.length:=oM
 obtain⟨H,I,es,J,a1,-,t,rfl,-⟩:=(p.af r).el P f.bN[P] (by simp[s]);have K:f.bN.getD P ⟨0,0,0,0⟩=f.bN[P]:=by simp[QQ,s]
 simp only[Qx,K]at q⊢;generalize f.bN[P]=n at t q;refine⟨_,_,_,ae e rfl,_,ae e rfl,H,I,J,oM,oM,bJ (es:=oT n) (k:=4) (Lg n) rfl (λL M=>t L M) (PA.mk λw2 N s2 O=>aD (Lg n) O rfl λu Q s3 R=>λS T=>⟨no,?_⟩)⟩;have v:ai F u:=N.new Q λx y=>.inr oM;have g:ai u S:=T.keep;have z:=(r.then v).then g;have A:=g.get (v.get e id) id;have a:=g.get R id;obtain⟨x,U,a2,a3,a4,V,y,a5,W,hs,-⟩:=qJ (m.af z) o;refine ar (vq ..) A ⟨id,_,ae a rfl,PC.ok (iR V o) ?_⟩;rintro _ w5 ⟨rfl,b⟩;have a:=b.get a id;have c:=z.then b;refine⟨_,rfl,ai.keep b,_,_,rfl,_,(b.cell (a:=⟨x,U+i*2,none⟩) y id).trans W,al.eT (λd=>⟨_,ae a rfl,al.dec (λh=>Ok.mk ⟨?_,c⟩) (λh=>?_)⟩) (λd=>Ok.mk ⟨?_,c⟩)⟩
 ·rw[show((b4.getD i ⟨0,[]⟩).n==n.bO)=true by simpa using d,Zy h];rfl
 ·obtain⟨j,B⟩:∃j:Nat,n.mq=j:=⟨n.mq.toNat,oM⟩
  obtain⟨X,Y,a',n',c',k,Z,-,l,-⟩:=qJ (m.af c) (i:=j) oM;refine⟨_,_,_,ae (b.get A id) rfl,_,ae a rfl,X,Y,k,oM,oM,_,by rw[B,Qx];exact l,_,ae a rfl,Ok.mk ⟨?_,c⟩⟩;rw[show((b4.getD i ⟨0,[]⟩).n==n.bO)=true by simpa using d,Xv h,B,Qx];rfl
 ·rw[show((b4.getD i ⟨0,[]⟩).n==n.bO)=false by simpa using d];rfl
end
variable{a4:List Value}{h:Program}
section
variable {w w':World} {D E:ac}
structure ID (t:List bz) (cells:List cZ) (fi op arg:Int):Prop where
 f0:0<=fi
 f1:fi<(t.length:Int)
 len:cells.length=t.length
 Ye:1<=op
 Yf:op<=5
 mv:op=5->0<=arg/\arg<((t.getD fi.toNat ⟨0,0,false,[]⟩).bN.length:Int)/\(((t.getD fi.toNat ⟨0,0,false,[]⟩).bN.getD arg.toNat ⟨0,0,0,0⟩).mq)<(t.length:Int)
variable {t:List bz} {cells:List cZ} {op arg:Int} {ma ca ta:be} {mn mc cn cc tn tc i:Nat} {bytes:Nat}
def RF(n:ID t cells (i:Int) op arg)(P:Row fy bytes w D ca cn cells)(c:Row jz 32 w E ma mn (t.getD i ⟨0,0,false,[]⟩).bN):
  enters LL (Ul op)=true/\bn (Ul op) (#[]++ #[Bb (t.getD i ⟨0,0,false,[]⟩) ma mn mc ca cn cc (i:Int) arg]++ #[]) w (Ok λf w'=>f= .bool (RD t cells (i:Int) op arg)/\ai w w'):=by
 have a:i<cn:=by have:=P.len;have:=n.f1;have:=n.len;omega
 have l:=n.Ye;have m:=n.Yf;have:op=1\/op=2\/op=3\/op=4\/op=5:=oM
 rcases this with rfl|rfl|rfl|rfl|rfl
 ·exact⟨kR,IB P a⟩
 ·exact⟨kR,tG (PA.mk λg b h j=>Ok.mk ⟨rfl,b⟩)⟩
 ·exact⟨kR,IC P a⟩
 ·exact⟨kR,tG (PA.mk λg b h j=>Ok.mk ⟨rfl,b⟩)⟩
 ·obtain⟨k,d,e⟩:=n.mv rfl
  rw[Qx]at d e;exact⟨kR,Gz P a c k (by rw[c.len];exact d) (by rw[P.len,n.len];exact e)⟩
def RG(op:Int):iQ LL 288 [.func (.func (Ul op)) #[] #[],.func (.func (Y_ op)) #[] #[]]=true:=kR
def GA{bytes:Nat}(e:Row sP bytes w D ta tn t)(f:i<tn):∃n P a b d,ta=some ⟨n,P,none⟩/\n<w.heap.size/\D n/\w.cell? ⟨n,P+i*4,none⟩=some (WP (t.getD i ⟨0,0,false,[]⟩).kind)/\w.cell? ⟨n,P+i*4+1,none⟩=some (WP (t.getD i ⟨0,0,false,[]⟩).eg)/\w.cell? ⟨n,P+i*4+2,none⟩=some (.bool (t.getD i ⟨0,0,false,[]⟩).floor)/\w.cell? ⟨n,P+i*4+3,none⟩=some (.slice a b d)/\Row jz 32 w D a b (t.getD i ⟨0,0,false,[]⟩).bN:=by
 have g:=e.len;obtain⟨n,P,o,h,j,k,c,a,b,d,rfl,l,p⟩:=e.el i t[i] (by simp[g▸f]);have m:t.getD i ⟨0,0,false,[]⟩=t[i]:=by simp[QQ,g▸f]
 rw[m];exact⟨n,P,a,b,d,h,j,k,c 0 dC,c 1 dC,c 2 dC,c 3 dC,l⟩
def IE(n:ID t cells e op arg)(f:Row sP 48 w E ta tn t)(m:Row fy bytes w D ca cn cells):
  bn 114 #[.agg #[.slice ta tn tc],.slice ca cn cc,WP e,WP op,WP arg] w (Ok λo w'=>o= WP (xz t cells e op arg)/\ai w w'):=by
 obtain⟨i,rfl⟩:∃i:Nat,e=i:=⟨e.toNat,by have:=n.f0;omega⟩
 refine Lh (PA.mk λL p M q=>PC.ok Ba ?_);rintro _ N ⟨O,rfl,r,a⟩;refine⟨_,rfl,jN A_ lO r ?_⟩;rw[NG n.Ye n.Yf];refine⟨_,_,_,rfl,PA.mk λQ g R s=>aD (RG op) s rfl λu h S c=>λj v=>al.tt rfl ?_⟩;have d:ai u j:=v.keep;have b:ai w j:=((p.then (a.then g)).new h λk P=>.inr (by have:=a.size;omega)).then d;have c:=d.get c id;have x:=d.get (h.get (g.get (a.get q id) id) (by have:=a.size;omega)) id;have T:=n.f1;have U:=f.len;obtain⟨k,y,V,W,z,A,P,X,B,C,F,H,I⟩:=GA (f.af b) (i:=i) oM;obtain⟨J,K⟩:=RF (mc:=z) (cc:=cc) n (m.af b) I;refine⟨_,ae c rfl,_,_,_,ae x rfl,k,y,A,oM,oM,_,_,_,_,_,_,B,C,F,H,_,_,_,rfl,J,PC.ok K ?_⟩;rintro _ Y ⟨rfl,l⟩;rw[Gy];exact⟨_,rfl,al.not (al.mk (λP=>Ok.mk ⟨by rw[P];rfl,b.then l⟩) (λP=>Ok.mk ⟨by rw[P];rfl,b.then l⟩))⟩
def RH(n:c<a*a4.length):((List.replicate a a4).flatten)[c]? =a4[c % a4.length]? :=by
 induction a generalizing c with
 |zero=>simp at n
 |succ a d=>
  rw[List.replicate_succ,List.flatten_cons]
  by_cases P:c<a4.length
  ·rw[XW P,Nat.mod_eq_of_lt P]
  ·rw[X8 oM,d (by rw[X7,Nat.one_mul]at n;omega)]
   obtain⟨b,rfl⟩:∃b,c=b+a4.length:=⟨c-a4.length,oM⟩
   rw[Nat.add_sub_cancel,Nat.add_mod_right]
def Yg{t b:TypeId}{n bytes:Nat}(f:ki h t b n bytes){z:Value}(g:(h.info? b).bind (·.zero)=some z)(k:a<=c)(r:c*bytes<=aP)(s:c<=aP){w:World}{l u:am}(v:∀w',Own w' b n (UV w.heap.size) a c (List.replicate a z.cells.toList).flatten->ai w w'->w'.heap.size=w.heap.size+1->l (.slice (UV w.heap.size) a c) w'):
  aK h (Instr.makeSlice t (WP (a:Int)) (WP (c:Int))) w l u:=by
 unfold aP at r s;obtain⟨i,P,m,o,x,y,d⟩:=ki.info f;have A:P=z:=by
  rw[m]at g;simp only[Option.bind_some,o]at g;exact XJ g
 subst A;have p:=run_make (P:=h) w t b i _ f.under m o .i64 .i64 a c oM oM (by rw[y,Int.mul_comm,<-Int.natCast_mul];omega) oM;rw[Qx,Qx,x]at p;have B:ai w (w.alloc (.cells (madeCells P.cells (c*n)) b)):=aj.alloc w _;have H:a*n<=c*n:=Q0 _ k;have C:(madeCells P.cells (c*n)).size=c*n:=size_madeCells ..;have E:((List.replicate a P.cells.toList).flatten).length=a*n:=by simp[d]
 refine aK.mk p (v _ ⟨⟨E,.inr ⟨w.heap.size,c,_,rfl,Qj _,heap_alloc_new w _,k,by unfold maxLen;omega,C,?_⟩⟩⟩ B sM);apply X3;intro e
 by_cases j:e<a*n
 ·rw[Xw,Zx j,RH (by simp[d];exact j)]
  unfold madeCells;have F:=f.pos;have q:e % n<P.cells.size:=by rw[d];exact Nat.mod_lt _ F
  simp[d,show e<c*n by omega];rw[getElem!_pos P.cells (e % n) q,X6 q]
 ·rw[Xw,Zq j,Q7 oM]
def IF(i:ta=ta)(c:tn=t.length)(n:tn<=20000000):bn 111 #[.agg #[.slice ta tn tc]] w (Ok (qh fy 268 w (eh t))):=by
 refine Li (PA.mk λd e j P=>⟨_,_,_,ae P rfl,Yg RC (z:=.agg #[WP 0,.slice none 0 0]) kR (Q4 _) cw cw λk a f l=>⟨_,_,_,rfl,Ok.mk ⟨_,_,_,(·=d.heap.size),rfl,⟨⟨_,λ_=>False,a,?_,λ_ g=>g.elim⟩,λb n=>by simpa[aI]using n.symm,λb n=>oM⟩,e.then f,λb n=>oM⟩⟩⟩);subst c
 clear a P
 unfold eh
 induction t with
 |nil=>rfl
 |cons m t h=>exact⟨_,_,rfl,⟨none,0,0,rfl,Row.nil _ _,by simp[aH],List.Pairwise.nil,sM⟩,h (by simp at n;omega)⟩

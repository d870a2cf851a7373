import Derived.Test.YtblabbpipmodgaaGreatDoorYoCodeR
set_option maxHeartbeats 4000000
set_option linter.all false
set_option maxRecDepth 100000
open Go.IntKind renaming wrap→XH
namespace Go.Proofs.YtblabbpipmodgaaGreatDoor
open Go.au
def iP(D:ak)(P:ByteArray):Bool:=decide (P=aP)||((gu P).2&& !decide ((gu P).1∈(du D).getD []))
def Dx(D:ak):List ByteArray:=D.list.filter (iP D)
def Ij(D:ak)(P:List ByteArray):ak:=P.foldl (λD a=>(D.delete a).2) D
def df(D:ak):ak:=Ij D (Dx D)
def yQ(P:List ByteArray):List (List Value):=P.map λa=>[.string a]
def Nx(D:ak)(P:List (List Value)):ak:=P.foldl (λD a=>match a with
 |[.string b]=>(D.delete b).2
 |_=>D) D
def B_:∀(P:List ByteArray) (D:ak),Nx D (yQ P)=Ij D P
 |[],D=>rfl
 |s::P,D=>B_ P (D.delete s).2
def Lw(D:ak)(P:List (List Value))(a:ByteArray):Nx D (P++[[.string a]])=((Nx D P).delete a).2:=by
 unfold Nx;rw[List.foldl_append];rfl
def Ca(P:List ByteArray)(a:ByteArray):yQ (P++[a])=yQ P++[[.string a]]:=by unfold yQ;simp
variable{e:Int}{q:List Int}{a c:Nat}{d:XU}{b:World}
def Bg{D:XM}(f:Row aM 8 b D d a q):
  ZH 249 #[.slice d a c,QH e] b (Ok λp g=>(∃m:Int,p= QH m/\(0<=m↔e∈q))/\b=g):=by
 have w:=f.len;have r:=f.ef;unfold aS at r;refine mO ⟨λn i g=>∃P:Nat,i=P/\P<=a/\n=a-P/\e∉q.take P/\b=g,⟨_,0,rfl,Qj _,rfl,sM,rfl⟩,?_⟩;rintro n i _ _ ⟨P,rfl,x,rfl,j,rfl⟩;refine al.dec (λs=>?_) (λs=>?_)
 ·obtain⟨t,k,y,rfl,o,_,u⟩:=f.lq (i:=P) oM
  refine⟨t,k,rfl,oM,oM,_,u,al.dU (λl=>?_) (λl=>?_)⟩
  ·exact Ok.mk ⟨⟨_,rfl,λ_=>l▸QZ o,λ_=>oM⟩,rfl⟩
  ·refine⟨_,oM,P+1,an oM,oM,rfl,?_,rfl⟩
   rw[Qw,o];intro v;rcases Q6.1 v with h|h
   ·exact j h
   ·simp at h;exact l h
 ·rw[Qz oM]at j
  exact Ok.mk ⟨⟨_,rfl,λh=>oM,λh=>Zz h j⟩,rfl⟩
def vi{D:XM}(P:Row aM 8 b D d a q):
  ZH 178 #[.slice d a c,QH e] b (Ok λf g=>f= .bool (decide (e∈q))/\b=g):=by
 refine kC (PC.ok (Bg P) ?_);rintro _ _ ⟨⟨i,rfl,h⟩,rfl⟩;exact⟨_,rfl,Ok.mk ⟨by rw[decide_eq_decide.2 h],rfl⟩⟩
section
variable {w0 w w1 w':World} {p:Nat} {D D':ak} {X Y:XM}
def aZ.lt(a:aZ w0 w p D X):∀P,X P->P<w.heap.size:=by obtain⟨c,d,e,f,b⟩:=a;exact b
def Lx(i:aZ w0 w p D X)(s:oV w0):ZH 124 #[XP p] w (Ok λt w'=>∃j k d e f,∃Y G:XM,t= .func (.func 175) #[] #[XP j,XP k]/\
  (∃g l,w'.heap[j]? =some (.cells #[XP p] g l))/\(∃g l,w'.heap[k]? =some (.cells #[.slice d e f] g l))/\aV aM 3 G w' d e f ((du D).getD [])/\Y j/\Y k/\(∀a,G a->Y a)/\aZ w0 w' p D (λa=>X a\/Y a)/\ai w w'):=by
 have A:=i.gr.size;refine xu (PA.mk λw1 n B o=>⟨_,ae o rfl,PC.ok ((i.add n (Y:=(·=w.heap.size)) λa P=>⟨oM,oM⟩).h_ s) ?_⟩);rintro _ b ⟨d,e,f,G,rfl,q,C,u,m⟩;refine⟨_,_,_,_,rfl,PA.mk λE h F v=>PS.mk v sM λH c I x=>Ok.mk ⟨w.heap.size,b.heap.size,d,e,f,λa=>(a=w.heap.size\/G a)\/a=b.heap.size,G,rfl,?_⟩⟩;have J:=m.size;have y:w.heap.size≠b.heap.size:=oM
 have r:∀a,G a->a<b.heap.size:=q.aE;have z:=u.add h (Y:=(·=b.heap.size)) λa P=>⟨oM,oM⟩
 refine⟨⟨_,_,c.get (h.get (m.get o id) id) y⟩,⟨_,_,x⟩,(q.af h).keep c (λa P g=>by have:=r a P;omega),.inl (.inl rfl),.inr rfl,λa P=>.inl (.inr P),?_,?_⟩
 ·refine z.fB c (λa P=>⟨.inr P,oM⟩) λa P=>⟨.inl ?_,?_⟩
  ·rcases P with P|(P|P)|P
   ·exact .inl (.inl (.inl P))
   ·exact .inl (.inl (.inr P))
   ·exact .inl (.inr P)
   ·exact .inr P
  ·have:=c.size
   rcases P with P|(P|P)|P
   ·have:=i.lt a P;omega
   ·omega
   ·have:=r a P;omega
   ·omega
 ·exact aj.new ((n.then m).then h) c λa P=>.inr oM
def CJ(w0 a:World)(p:Nat)(D:ak)(e:XM)(b:World×(XM))(c:List (List Value))(d:World):Prop:=
 aZ w0 d p (Nx D c) (λP=>(e P\/(a.heap.size<=P/\P<a.heap.size+2))\/b.2 P)/\aj (dK e) a d/\aj (dK b.2) b.1 d/\∀P,b.2 P->a.heap.size+2<=P
variable {w5:World} {X5:XM} {s:World×(XM)} {pre:List (List Value)} {A B:World}
def CJ.af(P:CJ w0 w5 p D X5 s pre A)(a:ai A B):CJ w0 w5 p D X5 s pre B:=⟨P.1.af a,P.2.1.af a,P.2.2.1.af a,P.2.2.2⟩
def CJ.fB(e:ai w0 w5)(f:CJ w0 w5 p D X5 s pre A)(g:xv (w5.heap.size+1) A B):CJ w0 w5 p D X5 s pre B:=by
 obtain⟨c,h,i,d⟩:=f;obtain⟨b,j⟩:=g;have:=e.size;refine⟨c.fB b (λP a=>⟨.inl (.inr ⟨oM,oM⟩),oM⟩) λP a=>⟨.inl a,by rw[j];exact c.lt P a⟩,h.new b λP a=>.inr oM,i.new b λP a=>.inl λk=>?_,d⟩;have:=d P k;omega
def FM{z C:Nat}{G:XM}{R:XT}(X:Laid w0)(a5:∀P,X5 P->P<w5.heap.size)(o:∃q r,w5.heap[a]? =some (.cells #[XP p] q r))(Y:X5 a)(t:∃q r,w5.heap[c]? =some (.cells #[.slice d z C] q r))(Z:X5 c)(hl:aV aM 3 G w5 d z C ((du D).getD []))(hG:∀P,G P->X5 P)(E:∀A B,R A->aj (tr w5) A B->R B)(F:∀s pre u A,CJ w0 w5 p D X5 s pre A->R A->vj [.string ⟨#[]⟩] u->lu XG (w5.heap.size+1) u A λP l=>P=true/\CJ w0 w5 p D X5 s (pre++[u]) l/\R l)(v:CJ w0 w5 p D X5 (w5,no) [] w1)(a0:R w1)(a1:w5.heap.size+2<=w1.heap.size):
  ZH 175 #[.func (.yield (w5.heap.size+1)) #[] #[],XP a,XP c] w1 (Ok λa4 w'=>R w'/\∃s,CJ w0 w5 p D X5 s (yQ (Dx D)) w'):=by
 obtain⟨e2,f2,o⟩:=o;obtain⟨e4,f4,t⟩:=t;have H:aZ w0 w1 p D _:=v.1;refine rY ⟨_,ae (v.2.1.get o λe=>e Y) rfl,PC.ok H.list ?_⟩;rintro _ w ⟨a8,I,c8,J,rfl,K,a2,h8,L⟩;have a6:D.list.length<=64:=by rw[mP];exact H.ok.many
 have a7:=K.len dC;have a3:CJ w0 w5 p D X5 (w,J) [] w:=⟨h8.mono λP f=>f.elim (λg=>.inl (.inl g)) .inr,v.2.1.af L,aj.refl _,λP f=>Xx a1 (a2 P f)⟩
 refine⟨_,_,_,rfl,λM N w'=>∃b:Nat,N=b/\b<=I/\M=I-b/\CJ w0 w5 p D X5 (w,J) (yQ ((D.list.take b).filter (iP D))) w'/\R w',⟨_,0,rfl,Qj _,rfl,a3,E _ _ a0 (ai.keep L)⟩,?_⟩;rintro M N _ a9 ⟨b,rfl,hj,rfl,j,O⟩;refine al.dec (λb0=>?_) (λb1=>?_)
 ·obtain⟨P,x,s,rfl,Q,_,k⟩:=((K.keep j.2.2.1 λP f e=>e f).row (bytes:=16) dC ba).lq (i:=b) oM
  refine⟨P,x,rfl,oM,oM,_,k,PC.ok (yR (X.af j.1.gr)) ?_⟩;rintro _ b2 ⟨rfl,S⟩;have i:=j.af S;have m:=E _ _ O (ai.keep S);have T:vj [.string ⟨#[]⟩] [.string s]:=λφ g=>g s;have U:iP D s=true->(D.list.take (b+1)).filter (iP D)=(D.list.take b).filter (iP D)++[s]:=λg=>by
   rw[Qw,Q,List.filter_append];simp[g]
  have V:iP D s=false->(D.list.take (b+1)).filter (iP D)=(D.list.take b).filter (iP D):=λg=>by
   rw[Qw,Q,List.filter_append];simp[g]
  refine⟨_,_,rfl,al.Uy (λhe=>?_) (λW=>al.mk (λn=>?_) (λn=>?_))⟩
  ·refine⟨_,rfl,(F _ _ _ _ i m T).mono ?_⟩
   rintro _ l ⟨rfl,h,y⟩;refine al.ff rfl ⟨_,?_,b+1,an oM,oM,rfl,?_,y⟩
   ·omega
   ·rw[U (by unfold iP;rw[show s=aP from he];simp),Ca];exact h
  ·refine⟨_,_,_,ae (i.2.1.get t λe=>e Z) rfl,PC.ok (vi ((hl.keep i.2.1 λP f e=>e (hG P f)).row (bytes:=8) dC (by have:=Cb (D:=D);unfold aS;omega))) ?_⟩
   rintro _ _ ⟨rfl,rfl⟩;refine⟨_,rfl,al.mk (λk=>?_) (λk=>?_)⟩
   ·refine⟨_,rfl,(F _ _ _ _ i m T).mono ?_⟩
    rintro _ l ⟨rfl,h,y⟩;refine al.ff rfl ⟨_,?_,b+1,an oM,oM,rfl,?_,y⟩
    ·omega
    ·rw[U (by unfold iP;rw[n,k];simp),Ca];exact h
   ·refine⟨_,?_,b+1,an oM,oM,rfl,?_,m⟩
    ·omega
    ·rw[V (by unfold iP;rw[n,k,Xv (show¬s=aP from W)];rfl)];exact i
  ·refine⟨_,?_,b+1,an oM,oM,rfl,?_,m⟩
   ·omega
   ·rw[V (by unfold iP;rw[n,Xv (show¬s=aP from W)];rfl)];exact i
 ·rw[Qz oM]at j
  exact Ok.mk ⟨O,_,j⟩
def Ly(r:Laid w0)(c:aZ w0 w p D X):ZH 64 #[XP p] w (Ok λi w'=>i= .tuple #[]/\aZ w0 w' p (df D) X/\aj (dK X) w w'):=by
 have a6:=c.gr.size;refine xx (PA.mk λw1 t s1 u=>⟨_,ae u rfl,PC.ok (Lx (c.add t (Y:=(·=w.heap.size)) λP a=>⟨oM,oM⟩) r.mQ) ?_⟩);rintro _ w5 ⟨b2,b4,a0,a1,a2,Y,G,rfl,C,E,F,H,I,J,j,k⟩;have K:=k.get u id;have l:=j.gr;have z5:=k.size;refine⟨_,rfl,175,_,rfl,kR,World×(XM),(w5,no),CJ w0 w5 p D λP=>(X P\/P=w.heap.size)\/Y P,λ_ _ _=>False,λ_ _=>True,λm=>m=yQ (Dx D),?_,λs pre A B d e=>d.fB l e,λ_ _ _ _ c _=>c,?_,?_,?_,trivial⟩
 ·intro L n s6
  exact⟨(j.add n (Y:=λP=>w5.heap.size<=P/\P<w5.heap.size+2) λP a=>⟨a.1,oM⟩).mono λP a=>a.elim id False.elim,ai.keep n,ai.keep n,λP a=>a.elim⟩
 ·intro s pre A d a7 a8 _
  refine⟨aj.refl _,λa9 e=>?_⟩;obtain⟨f,h,v,x⟩:=d.fB l e;refine⟨_,ae (h.get K λb=>b (.inl (.inr rfl))) rfl,PC.ok f.delete ?_⟩;rintro _ b0 ⟨rfl,M,o⟩;refine⟨_,rfl,o.mono λP _ b=>⟨λN=>b (.inl (.inr ⟨oM,oM⟩)),λN=>b (.inl (.inr ⟨oM,oM⟩))⟩,?_⟩;show CJ _ _ _ _ _ _ _ _;refine⟨by rw[Lw];exact M,h.new o λP b=>.inl λg=>b (.inl (.inl g)),v.new o λP b=>.inl λg=>b (.inr g),x⟩
 ·intro O Rx Q _ R S L T y
  refine Calls.mono (FM (R:=O) r j.lt C (.inr H) E (.inr I) F (λP a=>.inr (J P a)) Q (λs pre U A d V e=>(S s pre U A d V e trivial).mono ?_) T y (R _ y)) ?_
  ·rintro P W (c|⟨-,a3,c,-⟩)
   ·exact c
   ·exact c.elim
  ·rintro _ W ⟨i,rfl,Z,s,q⟩
   exact⟨⟨i,rfl⟩,.inl ⟨Z,s,_,q,rfl⟩⟩
 ·rintro s _ A ⟨f,h,v,x⟩ rfl hm
  refine⟨hm,λb1 ⟨z,a5⟩=>Ok.mk ⟨rfl,?_,?_⟩⟩
  ·rw[B_]at f
   exact(f.fB z (λP a=>⟨.inl (.inr ⟨oM,oM⟩),by have:=l.size;omega⟩) λP a=>⟨.inl a,by rw[a5];exact f.lt P a⟩).mono λP a=>.inl (.inl (.inl (.inl a)))
  ·exact aj.new (aj.new (ai.keep (t.then k)) h λP b=>.inl λg=>b (.inl (.inl g))) z λP a=>.inr oM
end
end Go.Proofs.YtblabbpipmodgaaGreatDoor
namespace Go.Proofs
open Go.RowKit Go.Maps Go.Sort Go.Shelf
def Tryz.SY(c:Nat):AnyZI.SortsIn Tryz.prog Tryz.xf Fence.wide c:=
 ⟨λaI a P d b e f g=>callsIn_wide.2 (AnyM.slices_Sort_int Tryz.uP aI a P d b e f g),
  λh P b=>callsIn_wide.2 (AnyM.slices_Sort_int_none Tryz.uP h P b)⟩
end Go.Proofs
namespace Go.Proofs.YtblabbpipmodgaaGreatDoor
section
open Go.au
open Go.RowKit Go.Maps Go.Sort Go.Shelf
def uP(P:List Int):List Int:=P.mergeSort (λa b=>decide (a<=b))
variable{f6:List (Int×Value)}{a c:Nat}{H:Nat×Nat}{g:TypeId}{b:World}
def yb(w:bU b a (Value.int .i64) f6)(F:∀h∈f6,aN h.1)(x:f6.length*8<=aS)(y:b.heap[c]? =some (.cells #[.map (some a)] g H)):
  ZH 239 #[.func (.func 289) #[] #[XP c]] b
   (Ok λp z=>EM b 3 (uP (f6.map (·.1))) p z):=by
 unfold aS at x;obtain⟨e,i,I,m,J,K⟩:=w.at';have L:Tryz.prog.underlying 3=some (.int .i64):=Tryz.underlying3;have M:e.size=f6.length:=by have:=Zj List.length m;simpa using this
 have N:∀P:Int,aN P->(Lit.int .i64 P).wf=true:=λP j=>by unfold aN at j;simp[Lit.wf,IntKind.min,IntKind.max,IntKind.signed,IntKind.bits];omega
 have A:∀d∈e.toList,∃P,d.key=Value.int .i64 P/\aN P:=λd f=>by
  have O:(d.key,d.val)∈f6.map (λh=>(Value.int .i64 h.1,h.2)):=by rw[<-m];exact Xk.2 ⟨d,f,rfl⟩
  obtain⟨h,Q,R⟩:=Xk.1 O;exact⟨h.1,(Prod.mk.inj R).1.symm,F h Q⟩
 have B:∀d∈e.toList,∀P,d.key=Value.int .i64 P->aN P->WideElems.rd XG 3 (λ_=>some ((.nil:DataW Unit),[])) d=some (.int .i64 P,.nil):=λd _ P j k=>by
  simp[WideElems.rd,j,Maps.keyOf_int_mk L (N P k)]
 have S:WideElems.Fit XG 3 (λ_=>some ((.nil:DataW Unit),[])) e i:=by
  refine⟨by unfold maxLen;omega,⟨J,K,?_⟩,λd f=>?_⟩
  ·have:e.toList.map (·.key)=(f6.map (·.1)).map (Value.int .i64):=by
    have:=Zj (List.map (λq:Value×Value=>q.1)) m;simpa[Function.comp_def]using this
   rw[this];exact List.pairwise_map.2 (List.Pairwise.imp (λT=>by simpa using T) w.tidy)
  ·obtain⟨P,j,k⟩:=A d f
   exact⟨_,B d f P j k⟩
 have U:b.ownsMap XG 3 (λ_=>some ((.nil:DataW Unit),[])) a e.size (.map ((e.toList.map (WideElems.rg XG 3 (λ_=>some ((.nil:DataW Unit),[])))).foldr DataW.insert [])):=
  ⟨e,i,I,S,Q4 _,rfl⟩
 have C:Maps.size (.map ((e.toList.map (WideElems.rg XG 3 (λ_=>some ((.nil:DataW Unit),[])))).foldr DataW.insert []))=f6.length:=by
  show(List.foldr DataW.insert [] _).length=_;rw[(WideShapes.sorted_perm _).length_eq];simp[M]
 have V:(intKeys (.map ((e.toList.map (WideElems.rg XG 3 (λ_=>some ((.nil:DataW Unit),[])))).foldr DataW.insert []))).Perm (f6.map (·.1)):=by
  refine(List.Perm.map (λh:Lit×DataW Unit=>Go.intOf h.1) (WideShapes.sorted_perm _)).trans ?_;have:(e.toList.map (WideElems.rg XG 3 (λ_=>some ((.nil:DataW Unit),[])))).map (λh=>Go.intOf h.1)=f6.map (·.1):=by
   have W:e.toList.map (λd=>match d.key with| .int _ P=>P|_=>0)=f6.map (·.1):=by
    have:=Zj (List.map (λq:Value×Value=>match q.1 with| .int _ P=>P|_=>0)) m;simpa[Function.comp_def]using this
   rw[<-W,List.map_map];refine List.map_congr_left λd f=>?_;obtain⟨P,j,k⟩:=A d f;simp[WideElems.rg,B d f P j k,j,Go.intOf]
  rw[this]
 have X:SeqGives Fence.wide 1 XG 289 #[XP c] encZ (λl=>l.Perm (intKeys _)) (Maps.size _) b:=
  AnyZI.keys_gives (ρ:=Tryz.CT) {Tryz.Ua with} Fence.wide _ trivial rfl oM c a e.size _ b (aB y) (ae y rfl) U
 have Y:=AnyZI.sorted_in Tryz.Rm Fence.wide 4 trivial trivial trivial trivial rfl oM (Tryz.SY _) (enters_of Tryz.func288 kR rfl) 289 #[XP c] trivial
  (enters_of Tryz.func289 kR rfl) _ _ (by rw[C];unfold maxLen;omega) (by rw[C];exact x) b X
 refine((callsIn_wide (n:=4)).1 Y).mono ?_;rintro d z ⟨p,l,rfl,Z,n,a5,r⟩;have E:l.mergeSort (λP a0=>decide (P<=a0))=uP (f6.map (·.1)):=mergeSort_of_perm_i (Z.trans V);have a6:l.length=(uP (f6.map (·.1))).length:=by rw[<-E];simp
 rw[E]at n;have hv:∃s t,p= .slice s l.length t:=by
  rcases n.2 with⟨rfl,h0⟩|⟨g',u,v,rfl,_⟩
  ·exact⟨none,0,by rw[h0]⟩
  ·exact⟨_,_,rfl⟩
 obtain⟨s,t,rfl⟩:=hv;refine Ok.mk ⟨s,_,t,rfl,⟨ownsRow_base_a n (Qj _)⟩,aj.Fu r,λa1 o=>?_⟩;rcases n.2 with⟨f,_⟩|⟨g',u,v,f,a7,_⟩
 ·simp only[XX]at f
  rw[f.1]at o;cases o
 ·simp only[XX]at f
  rw[f.1]at o;simp only[aI,Q1]at o;omega
end
section
open Go.au
structure jy where
 cZ:Int
 asked:List (Int×Int)
 heard:List (Int×List Int)
 deriving DecidableEq
def Vp(P:Value)(a:Int):Prop:=P= QH a
def MK(e:World)(f:XM)(g:Value)(b:List Int):Prop:=
 ∃P a c,g= .slice P a c/\Own e 3 1 P a c (ints b)/\a*8<=aS/\(∀h∈b,aN h)/\∀d,aI P=some d->f d
def MK.keep{S c F':XM}{b f:World}{g:Value}{h:List Int}(d:MK b c g h)(m:aj S b f)(n:∀P,c P->P<b.heap.size->(∃i,b.heap[P]? =some i/\∀j k,i≠.map j k)->¬S P)(o:∀P,c P->F' P):MK f F' g h:=by
 obtain⟨p,q,r,rfl,e,a,s,l⟩:=d;refine⟨p,q,r,rfl,e.keep m (dq.2 λP a=>?_),a,s,λP a=>o P (l P a)⟩;refine n P (l P a) (e.lt a) ?_;rcases e.cases with⟨rfl,_⟩|⟨v,t,rfl,u,_⟩
 ·cases a
 ·simp only[aI,Q1]at a
  subst a;exact⟨_,u,λj k d=>by cases d⟩
structure dX (w:World) (p:Nat) (F:XM) (T:jy):Prop where
 body:∃ra rh la lh,w.heap[p]? =some (.cells #[QH T.cZ,.map (some ra),.map (some rh)] 150 (0,0))/\bU w ra (Value.int .i64) la/\bU w rh (Value.int .i64) lh/\
  fh Vp la T.asked/\fh (MK w F) lh T.heard/\F ra/\F rh/\ra≠rh
 self:F p
 aE:∀b,F b->b<w.heap.size
 HG:Tidy T.asked
 rl:∀q∈T.asked,aN q.1
variable{z:XR}{e u:Int}{g7:List (Int×List Int)}{f6:List (Int×Value)}{b0 q:List Int}{I a c j p:Nat}{f:XM}{d t:XU}{b k:World}{b3:jy}
def dX.keep{S f:XM}(P:dX b a f b3)(d:aj S b k)(e:∀c,f c->¬S c):dX k a f b3:=by
 obtain⟨j,l,m,n,o,p,q,r,s,h,i,t⟩:=P.body;exact⟨⟨j,l,m,n,d.get o (e _ P.self),p.keep d (e _ h),q.keep d (e _ i),r,s.mono λv w u=>u.keep d (λc g _ _=>e c g) (λ_ P=>P),h,i,t⟩,
  P.self,λc g=>Qk (P.aE c g) d.size,P.HG,P.rl⟩
def dX.af(P:dX b a f b3)(c:ai b k):dX k a f b3:=P.keep c λ_ _ P=>P
def kI:iD XG 3 (Value.int .i64):=Tk Tryz.underlying3
def mA:lT XG 147 3 3 (QH 0):=⟨kR,kR⟩
def mH:lT XG 148 3 27 (.slice none 0 0):=⟨kR,kR⟩
def Hn:ZH 37 #[QH e] b
  (Ok λi d=>∃f g,i= XP f/\dX d f g ⟨e,[],[]⟩/\ai b d/\∀P,g P->b.heap.size<=P):=by
 refine Bk (PA.mk λj k q l=>PA.mk λm h r n=>PA.mk λo a s p=>Ok.mk ⟨m.heap.size,λP=>b.heap.size<=P/\P<o.heap.size,rfl,
  ⟨⟨b.heap.size,j.heap.size,[],[],p,bU.new (a.get (h.get l id) id),bU.new (a.get n id),trivial,trivial,oM,oM,oM⟩,oM,λP c=>c.2,by simp[Tidy],sM⟩,
  (k.af h).af a,λP c=>c.1⟩)
def Hs(P:dX b a f b3)(s:aN e):
  ZH 111 #[XP a,QH e,QH u] b
   (Ok λo j=>o= .tuple #[]/\dX j a f {b3 with asked:=aH b3.asked e u}/\aj f b j):=by
 obtain⟨c,t,K,v,k,p,w,x,y,q,z,r⟩:=P.body;have A:∃d g,b.heap[c]? =some (.map d g):=by obtain⟨d,g,P,_⟩:=p.at';exact⟨d,g,P⟩
 obtain⟨d,g,l⟩:=A;have B:a≠c:=by rintro rfl;rw[k]at l;cases l
 refine og ⟨a,0,rfl,some c,ae k rfl,iN mA kI p λj C h E=>Ok.mk ⟨rfl,⟨⟨c,t,_,v,h.get k B,C,w.keep h (Ne.symm r),fh.aH (R:=Vp) rfl x,?_,q,z,r⟩,P.self,?_,P.HG.aH _ _,?_⟩,h.mono ?_⟩⟩
 ·refine y.mono λo L F=>F.keep h (λm _ _ i=>?_) (λ_ P=>P)
  rintro rfl;obtain⟨M,i,H⟩:=i;rw[l]at i;cases i;exact H _ _ rfl
 ·intro m I;rw[E];exact P.aE m I
 ·intro J n
  rcases fe n with rfl|n
  ·exact s
  ·exact P.rl J n
 ·rintro m _ rfl;exact q
def jy.all(a:jy)(P:Int)(b:List Int):List Int:=jN ((aq a.heard P).getD []) b
def EJ(a P:List Int):Bool:=qd a P==0||qd a P==2
def jy.ends(b:jy)(P:Int)(c a:List Int):Bool:=(aq b.asked P).isSome&&EJ (b.all P c) a
def jy.x_(a:jy)(P:Int)(c b:List Int):jy:=
 {a with heard:=aH a.heard P (a.all P c),asked:=if a.ends P c b then bI a.asked P else a.asked}
def AE(b:∀c∈q,aN c)(P:Int):aN (fu q P):=by
 unfold fu;split
 ·unfold aN;omega
 ·by_cases a:P.toNat<q.length
  ·have:=b q[P.toNat] (XY a)
   simp only[List.getD,Qq a,Option.getD_some];unfold aN at*;omega
  ·have:q[P.toNat]? =none:=by simp;omega
   simp only[List.getD,this,Option.getD_none];unfold aN;omega
def CM(b:∀P∈q,aN P)(c:∀P∈b0,aN P):∀P∈jN q b0,aN P:=by
 intro P d;obtain⟨a,_,rfl⟩:=Xk.1 d;have e:=AE b a;have f:=AE c a;unfold aN at*;omega
def EK(P a:List Int):(jN P a).length=max P.length a.length:=rb _ _ _
def dX.Rg(j:fh (MK b f) f6 g7)(P:Int):
  ∃a c d,(aq f6 P).getD (.slice none 0 0)= .slice a c d/\Ints b a c ((aq g7 P).getD [])/\c*8<=aS/\∀h,aI a=some h->f h:=by
 rcases j.aq P with⟨e,g⟩|⟨n,o,e,g,a,c,d,rfl,k,i,l,m⟩
 ·rw[e,g];exact⟨none,0,0,rfl,Ints.nil b,by simp[aS],by simp[aI]⟩
 ·rw[e,g];exact⟨a,c,d,rfl,k.ints i l,i,m⟩
def Hj(P:dX b a f b3)(L:Ints b d c q)(hy:Ints b t j b0)(W:b0≠[]->nJ f t):
  ZH 47 #[XP a,QH e,.slice d c p,.slice t j I] b
   (Ok λs r=>∃F',s= .bool (b3.ends e q b0)/\dX r a F' (b3.x_ e q b0)/\cO f b F' r):=by
 obtain⟨o,v,E,lh,F,y,X,M,h5,Y,N,O⟩:=P.body;obtain⟨l,m,Q⟩:∃l m,b.heap[v]? =some (.map l m):=by obtain⟨l,m,P,_⟩:=X.at';exact⟨l,m,P⟩
 obtain⟨c9,d0,a6⟩:∃l m,b.heap[o]? =some (.map l m):=by obtain⟨l,m,P,_⟩:=y.at';exact⟨l,m,P⟩
 have b7:a≠v:=by rintro rfl;rw[F]at Q;cases Q
 have b8:a≠o:=by rintro rfl;rw[F]at a6;cases a6
 obtain⟨ha,hn,hc,hg,R,hB,hF⟩:=dX.Rg h5 e;refine oh ⟨a,0,rfl,some v,ae F rfl,yk mH kI X ⟨ha,hn,hc,hg,PC.ok (yP R L) ?_⟩⟩;rintro _ w1 ⟨w,z,S,rfl,Z,u,a7⟩;have b9:z=(b3.all e q).length:=by have:=Z.length;rw[je,Nat.mul_one]at this;exact this.symm
 have a8:z*8<=aS:=by
  rw[b9];unfold jy.all;rw[EK];have:=R.len;have:=R.ef;have:=L.len;have:=L.ef;unfold aS at*;omega
 have a9:∀c0∈b3.all e q,aN c0:=CM R.yd L.yd;refine⟨w,z,S,rfl,a,0,rfl,some v,ae (u.get F id) rfl,iN mH kI (X.keep u id) λi b1 A c1=>?_⟩;have H:aI w≠some v:=λk=>by have:=a7 _ k;have:=aB Q;omega
 have b2:Own i 3 1 w z S (ints (b3.all e q)):=Z.keep A (dq.2 λt W=>by rintro rfl;exact H W);have c2:Ints i t j b0:=(hy.af u).Fw A λc3 a0 hq=>by rintro rfl;exact W c3 a0 hq N
 refine PC.ok (K_ (b2.ints a8 a9) c2) ?_;rintro _ _ ⟨rfl,rfl⟩;have T:i.heap[a]? =some (.cells #[QH b3.cZ,.map (some o),.map (some v)] 150 (0,0)):=A.get (u.get F id) b7;have U:bU i o (Value.int .i64) E:=(y.keep u id).keep A O;refine⟨_,rfl,?_⟩
 let F':XM:=λg=>f g\/(b.heap.size<=g/\g<w1.heap.size)
 have a1:cO f b F' i:=⟨(u.keep (S:=f)).trans A (λ_ _ P=>P) (by rintro g _ rfl;exact N),λg n=>n.imp id (·.1)⟩
 have b4:fh (MK i F') (aH lh e (.slice w z S)) (aH b3.heard e (b3.all e q)):=by
  refine fh.aH ⟨w,z,S,rfl,b2,a8,a9,λg n=>.inr ⟨a7 g n,Z.lt n⟩⟩ (h5.mono λs ys J=>?_);refine(J.keep u (F':=f) (λ_ _ _ _ P=>P) (λ_ P=>P)).keep A (λg _ _ h=>?_) (λ_ P=>.inl P);rintro rfl;obtain⟨c4,h,H⟩:=h;rw[u.get Q id]at h;cases h;exact H _ _ rfl
 have b5:∀g,F' g->g<i.heap.size:=λg n=>by
  rw[c1];rcases n with n|n
  ·exact Qk (P.aE g n) u.size
  ·exact n.2
 have c5:dX i a F' {b3 with heard:=aH b3.heard e (b3.all e q)}:=
  ⟨⟨o,v,E,_,T,U,b1,M,b4,.inl Y,.inl N,O⟩,.inl P.self,b5,P.HG,P.rl⟩
 have a2:(aq E e).isSome=(aq b3.asked e).isSome:=by
  rcases M.aq e with⟨B,V⟩|⟨s,b6,B,V,_⟩<;>rw[B,V]<;>rfl
 have c6:∃g:Int,(aq E e).getD (QH 0)= QH g:=by
  rcases M.aq e with⟨B,V⟩|⟨s,b6,B,V,J⟩
  ·rw[B];exact⟨0,rfl⟩
  ·rw[B];exact⟨b6,J⟩
 obtain⟨k0,c7⟩:=c6;have no:b3.ends e q b0=false->Ok (λs r=>∃F',s= .bool (b3.ends e q b0)/\dX r a F' (b3.x_ e q b0)/\cO f b F' r) (.returned (.bool false)) i:=λk=>
  Ok.mk ⟨F',by rw[k],by unfold jy.x_;rw[k];exact c5,a1⟩
 have a3:∀x,b3.ends e q b0=true->bU x o (Value.int .i64) (bI E e)->aj (·=o) i x->x.heap.size=i.heap.size->
   Ok (λs r=>∃F',s= .bool (b3.ends e q b0)/\dX r a F' (b3.x_ e q b0)/\cO f b F' r) (.returned (.bool true)) x:=λx k hm C a5=>by
  obtain⟨d1,d2,c8⟩:∃l m,i.heap[o]? =some (.map l m):=by obtain⟨l,m,P,_⟩:=U.at';exact⟨l,m,P⟩
  refine Ok.mk ⟨F',by rw[k],?_,a1.keep.trans C (λ_ _ P=>P) (by rintro g _ rfl;exact Y),a1.new⟩;unfold jy.x_;rw[k];refine⟨⟨o,v,_,_,C.get T b8,hm,b1.keep C (Ne.symm O),M.bI,?_,.inl Y,.inl N,O⟩,.inl P.self,λg n=>by rw[a5];exact b5 g n,P.HG.bI e,λa0 hq=>P.rl a0 (fX hq)⟩;refine b4.mono λs ys J=>J.keep C (λg _ _ h=>?_) (λ_ P=>P);rintro rfl;obtain⟨c4,h,H⟩:=h;rw[c8]at h;cases h;exact H _ _ rfl
 refine⟨λr=>i=r/\b3.ends e q b0=true,⟨a,0,rfl,some o,ae T rfl,lU mA kI U ?_⟩,?_⟩
 rotate_left
 ·rintro _ _ ⟨rfl,k⟩
  exact⟨a,0,rfl,some o,ae T rfl,IS mA kI U λx hm C a5=>a3 x k hm C a5⟩
 rw[c7];refine⟨k0,_,rfl,al.mk (λh=>?_) (λh=>al.mk (λh0=>al.mk (λy=>?_) (λy=>?_)) (λh0=>?_))⟩
 ·refine no ?_
  have:(aq b3.asked e).isSome=false:=by rw[<-a2];simpa using h
  simp[jy.ends,this]
 ·refine no ?_
  have w:(qd (b3.all e q) b0==0)=false:=by simpa[bne]using h0
  have K:(qd (b3.all e q) b0==2)=false:=by simpa[bne]using y
  simp[jy.ends,EJ,w,K]
 ·have k:b3.ends e q b0=true:=by
   have a4:(aq b3.asked e).isSome=true:=by rw[<-a2];simpa using h
   have K:(qd (b3.all e q) b0==2)=true:=by simpa[bne]using y
   simp[jy.ends,EJ,a4,K]
  exact⟨rfl,k⟩
 ·have k:b3.ends e q b0=true:=by
   have a4:(aq b3.asked e).isSome=true:=by rw[<-a2];simpa using h
   have K:(qd (b3.all e q) b0==0)=true:=by simpa[bne]using h0
   simp[jy.ends,EJ,a4,K]
  exact⟨rfl,k⟩
def jy.open(P:jy):List Int:=uP (P.asked.map (·.1))
def JY(j:dX b a f b3)(d:b3.asked.length*8<=aS):
  ZH 168 #[XP a] b (Ok (EM b 3 b3.open)):=by
 obtain⟨k,C,p,E,q,r,F,e,H,I,J,K⟩:=j.body;refine o_ ⟨a,0,rfl,some k,ae q rfl,PC.ok (φ:=λs g=>s= .func (.func 289) #[] #[XP b.heap.size]/\ai b g/\g.heap.size=b.heap.size+1/\
  g.heap[b.heap.size]? =some (.cells #[.map (some k)] 147 (0,0))) (iE (PA.mk λt P l h=>Ok.mk ⟨rfl,P,l,h⟩)) ?_⟩
 rintro _ t ⟨rfl,P,l,h⟩;have u:∀c∈p,aN c.1:=by
  intro c v;have:c.1∈b3.asked.map (·.1):=by rw[<-e.keys];exact Xk.2 ⟨c,v,rfl⟩
  obtain⟨w,i,x⟩:=Xk.1 this;rw[<-x];exact j.rl w i
 refine⟨_,rfl,PC.ok (yb (r.af P) u (by rw[e.length];exact d) h) ?_⟩;rintro _ L ⟨m,n,o,rfl,y,z,A⟩;refine⟨m,n,o,rfl,Ok.mk ⟨m,n,o,rfl,?_,P.af z,λB d=>by have:=A B d;omega⟩⟩;unfold jy.open;rw[<-e.keys];exact y
def Hl(d:dX b a f b3):
  ZH 63 #[XP a] b (Ok λt l=>t= .tuple #[]/\dX l a f ⟨b3.cZ,[],[]⟩/\aj f b l):=by
 obtain⟨g,h,C,E,e,m,n,F,H,o,p,j⟩:=d.body;obtain⟨P,c,q⟩:∃P c,b.heap[h]? =some (.map P c):=by obtain⟨P,c,d,_⟩:=n.at';exact⟨P,c,d⟩
 obtain⟨I,J,r⟩:∃P c,b.heap[g]? =some (.map P c):=by obtain⟨P,c,d,_⟩:=m.at';exact⟨P,c,d⟩
 have u:a≠h:=by rintro rfl;rw[e]at q;cases q
 have s:a≠g:=by rintro rfl;rw[e]at r;cases r
 refine om ⟨a,0,rfl,some g,ae e rfl,G_ mA m λK v i w=>⟨a,0,rfl,some h,ae (i.get e s) rfl,G_ mH (n.keep i (Ne.symm j)) λL x k y=>Ok.mk ⟨rfl,
  ⟨⟨g,h,[],[],k.get (i.get e s) u,v.keep k j,x,trivial,trivial,o,p,j⟩,d.self,λz A=>by rw[y,w];exact d.aE z A,by simp[Tidy],sM⟩,?_⟩⟩⟩
 exact i.trans k (by rintro B _ rfl;exact o) (by rintro B _ rfl;exact p)
def fK(c a:Int)(b:List Int×List (Int×Int))(P:Int):List Int×List (Int×Int):=
 if XH .i64 (a-(aq b.2 P).getD 0)>=c then(b.1++[P],aH b.2 P a)else b
def jy.iK(P:jy)(a:Int)(b:Nat):List Int×List (Int×Int):=(P.open.take b).foldl (fK P.cZ a) ([],P.asked)
def jy.due(a:jy)(P:Int):List Int:=(a.iK P a.open.length).1
def jy.OS(P:jy)(a:Int):jy:={P with asked:=(P.iK a P.open.length).2}
def jy.JZ(b:jy)(P:Int)(c:b.open[a]? =some e):b.iK P (a+1)=fK b.cZ P (b.iK P a) e:=by
 unfold jy.iK;rw[Qw,c];simp
def ME(h:dX b a f b3)(c:b3.asked.length*8<=aS):
  ZH 113 #[XP a,QH e] b
   (Ok λJ L=>∃M a4 a5,J= .slice M a4 a5/\Own L 3 1 M a4 a5 (ints (b3.due e))/\dX L a f (b3.OS e)/\aj f b L/\∀P,aI M=some P->b.heap.size<=P):=by
 refine qG (PC.ok (JY h c) ?_);rintro _ N ⟨A,l,lc,rfl,m,s,hn⟩;have b2:∀g∈b3.open,aN g:=by
  intro g B;have:g∈b3.asked.map (·.1):=(List.mergeSort_perm _ _).mem_iff.1 B;obtain⟨t,u,rfl⟩:=Xk.1 this;exact h.rl t u
 have O:l=b3.open.length:=by have:=m.length;rw[je,Nat.mul_one]at this;exact this.symm
 have b4:b3.open.length=b3.asked.length:=by simp[jy.open,uP]
 have b5:l*8<=aS:=by rw[O,b4];exact c
 have hL:Ints N A l b3.open:=m.ints b5 b2;have b6:nJ f A:=dq.2 λP c Q=>by have:=hn P c;have:=h.aE P Q;omega
 unfold aS at c;have d2:nJ f none:=nJ.none;refine⟨A,l,lc,rfl,λa6 v w R i n=>∃d:Nat,i=d/\d<=l/\a6=l-d/\Own n 3 1 v w R (ints (b3.iK e d).1)/\w<=d/\dX n a f {b3 with asked:=(b3.iK e d).2}/\aj f b n/\Ints n A l b3.open/\N.heap.size<=n.heap.size/\
   (∀P,aI v=some P->N.heap.size<=P),⟨_,0,rfl,Qj _,rfl,Own.nil _ _ _,Qj _,h.af s,s.keep,hL,Q4 _,by simp[aI]⟩,?_⟩
 rintro a6 v w R i _ n ⟨d,rfl,d3,rfl,S,d4,C,T,U,b7,p⟩;refine al.mk (λx=>?_) (λx=>?_)
 ·have x:=XV x
  obtain⟨P,V,g,rfl,d5,B,b8,hc⟩:=U.at (i:=(d:Int)) oM oM;rw[Qx]at B;have a7:=b3.JZ e B;obtain⟨ra,rh,UL,lh,t1,t2,t3,t4,t5,t6,t7,t8⟩:=C.body;refine⟨P,V,rfl,oM,oM,g,hc,a,0,rfl,some ra,ae t1 rfl,?_⟩;have b9:(aq UL g).getD (QH 0)= QH ((aq (b3.iK e d).2 g).getD 0):=by
   rcases t4.aq g with⟨W,X⟩|⟨J,d6,W,X,Y⟩
   ·rw[W,X];rfl
   ·rw[W,X];exact Y
  refine⟨(aq (b3.iK e d).2 g).getD 0,λc0=>?_,a,0,rfl,b3.cZ,ae t1 rfl,λw3 hd=>?_⟩
  ·have:=eB mA kI (t2.keep (aj.drewN (S:=λ_=>False) n c0) id) g false
   simpa[b9]using this
  have j:ai n w3:=hd.keep;refine al.mk (λo=>?_) (λo=>?_)
  ·have o:=XV o
   refine PA.mk λw4 q s4 g4=>?_;refine Kk RT ((S.af j).af q) g4 (by unfold aS at*;omega) λa' c' w5 a8 E K=>?_;refine⟨a',w+1,c',rfl,a,0,rfl,?_⟩;have c1:∀P,f P->¬(some P=aI v):=λP Q Z=>by have:=p P Z.symm;have:=h.aE P Q;have:=s.size;omega
   have y:dX w5 a f {b3 with asked:=(b3.iK e d).2}:=((C.af j).af q).keep E c1;obtain⟨k,a0,a9,a1,a2,b0,c2,c3,c4,a3,c5,b1⟩:=y.body;refine⟨some k,ae a2 rfl,iN mA kI b0 λw6 c6 r c7=>?_⟩;obtain⟨F,H,I⟩:∃F H,w5.heap[k]? =some (.map F H):=by obtain⟨F,H,h,_⟩:=b0.at';exact⟨F,H,h⟩
   have c8:a≠k:=by rintro rfl;rw[a2]at I;cases I
   have c9:dX w6 a f {b3 with asked:=aH (b3.iK e d).2 g e}:=by
    refine⟨⟨k,a0,_,a1,r.get a2 c8,c6,c2.keep r (Ne.symm b1),fh.aH (R:=Vp) rfl c3,?_,a3,c5,b1⟩,y.self,λP c=>by rw[c7];exact y.aE P c,y.HG.aH _ _,?_⟩
    ·refine c4.mono λJ ys Y=>Y.keep r (λt _ _ m=>?_) (λ_ h=>h)
     rintro rfl;obtain⟨d7,m,d0⟩:=m;rw[I]at m;cases m;exact d0 _ _ rfl
    ·intro t u
     rcases fe u with rfl|u
     ·exact b8
     ·exact y.rl t u
   have z:b3.iK e (d+1)=((b3.iK e d).1++[g],aH (b3.iK e d).2 g e):=by rw[a7];unfold fK;rw[Zx o]
   have d1:∀P,aI a'=some P->P≠k:=λP c=>by
    rintro rfl;exact a8.RW I c
   refine⟨_,?_,d+1,?_,oM,rfl,?_,oM,by rw[z];exact c9,?_,?_,?_,?_⟩
   ·omega
   ·rw[wrap_i64 bb];simp
   ·rw[z];exact a8.keep r (dq.2 d1)
   ·refine(((T.af j).af q).new E ?_).trans r (λ_ _ h=>h) (by rintro t _ rfl;exact a3)
    intro P c;right;have:=p P c.symm;have:=s.size;omega
   ·refine(((U.af j).af q).keep E (dq.2 λP c Z=>?_)).keep r (dq.2 λP c=>?_)
    ·have:=p P Z.symm;have:=m.lt c;omega
    ·rintro rfl;exact dq.1 b6 P c a3
   ·have:=j.size;have:=q.size;have:=E.size;omega
   ·intro P c
    rcases K with K|K
    ·exact p P (K▸c)
    ·rw[K]at c;cases c;have:=j.size;have:=q.size;omega
  ·have o:=Xy o
   have z:b3.iK e (d+1)=b3.iK e d:=by rw[a7];unfold fK;rw[Zq o]
   refine⟨_,?_,d+1,?_,oM,rfl,by rw[z];exact S.af j,oM,by rw[z];exact C.af j,T.af j,U.af j,Xx b7 j.size,p⟩
   ·omega
   ·rw[wrap_i64 bb];simp
 ·have x:=Xy x
  obtain rfl:d=l:=oM
  refine Ok.mk ⟨v,w,R,rfl,?_,?_,T,λP c=>Xx s.size (p P c)⟩
  ·unfold jy.due;rw[<-O];exact S
  ·unfold jy.OS;rw[<-O];exact C
structure cJ where
 bT:Int
 sO:Int
 bh:Int
 chunk:Int
 buffer:Int
 cZ:Int
 every:Int
 start:Int
 decl:aW
structure bM where
 S:ar
 D:ak
 log:Option dm
 waits:List ah
 fM:jy
def jH(P:cJ)(a:Int):Bool:=
 within P.bT 1 64&&within a 0 (P.bT-1)&&within P.sO 64 262144&&decide (P.bh>=1)&&decide (P.every>=1)&&within P.chunk 1 32&&within P.buffer 1 256&&within P.cZ 1 1048576&&decide (P.start>=0)
section
variable (c:cJ) (self:Int)
def e_(a:bM):Int×bM:=
 let P:=aR a.D c.bh
 if P.no≠0 then(P.no,{a with D:=P.D,log:=none,S:=⟨c.bT.toNat,[]⟩})
 else(0,{a with D:=P.D,log:=some P.V,S:=(⟨c.bT.toNat,[]⟩:ar).ey P.out})
def z_:Int×bM:=e_ c ⟨⟨c.bT.toNat,[]⟩,gg c.sO.toNat,none,[],⟨c.cZ,[],[]⟩⟩
def eJ(P:ar)(a:List ah):ar:=(⟨c.bT.toNat,[]⟩:ar).ey (P.l++a)
def dh(a:bM)(d:List ah):Int×bM:=match a.log with
 |none=>(15,a)
 |some e=>
  let P:=aD e a.D d
  if P.1≠0 then(P.1,{a with log:=some P.2.1,D:=P.2.2})else
  let b:=P.2.2.sync P.2.1.last
  if b.1≠0 then(b.1,{a with log:=some P.2.1,D:=b.2})else
  (0,{a with log:=some P.2.1,D:=b.2,S:=eJ c a.S d})
def dW(P:bM)(d:kz):Int×(Int×Int)×bM:=match P.log with
 |none=>(15,(0,0),P)
 |some _=>
  let a:=kZ c.decl P.S (cN c.decl P.S.l) self c.start d
  if a.2.2≠0 then(a.2.2,(0,0),P)else
  if a.2.1 then(let b:=dh c P [a.1];if b.1≠0 then(b.1,(0,0),b.2)else(0,aX a.1,b.2))
  else(0,aX a.1,P)
def f_(a:bM)(P b:Int):List cY×bM:=
 if P<0\/P>=c.bT\/P=self then([],a)else([jU a.S self P],{a with fM:={a.fM with asked:=aH a.fM.asked P b}})
def Ht(b:bM)(P:Int):List cY×bM:=((b.fM.due P).map λa=>jU b.S self a,{b with fM:=b.fM.OS P})
def fZ(P:Nat):List ah->ar->List ah->List ah->ar×List ah×List ah
 |[],b,a,c=>(b,a,c)
 |e::d,b,a,c=>
  if(b.add e).1=0 then fZ P d (b.add e).2 (a++[e]) c
  else if(b.add e).1=16 then fZ P d b a c
  else fZ P d b a (eG P c e).2
def ep:List ah->ar->List ah->ar×List ah
 |[],a,P=>(a,P)
 |e::b,a,P=>if(a.add e).1=0 then ep b (a.add e).2 (P++[e])else ep b (a.add e).2 P
def nP:Nat->ar->List ah->List ah->List ah×List ah
 |0,b,P,c=>(P,c)
 |k+1,b,P,c=>
  let a:=bE b c
  if a.1=[]then(P,a.2)else
  let d:=ep a.1 b P
  nP k d.1 d.2 a.2
def im(a:bM)(b:List ah):List ah×List ah:=
 let P:=fZ c.buffer.toNat b (eJ c a.S []) [] a.waits
 nP (P.2.2.length+1) P.1 P.2.1 P.2.2
def lF(P:bM)(b:cY):List cY×Int×bM:=
 let d:=im c P b.events
 let P:={P with waits:=d.2}
 if d.1=[]then([xZ P.S self b.bX],0,P)else
 let a:=dh c P d.1
 if a.1≠0 then([],a.1,{a.2 with waits:=[]})else([xZ a.2.S self b.bX],0,a.2)
def cd(P:bM)(a:cY):List cY×Int×bM:=match P.log with
 |none=>([],15,P)
 |some _=>
  let no:=eK a c.bT.toNat c.chunk
  if no≠0 then([],no,P)else
  if a.oF≠self then([],1,P)else
  if a.kind=3 then lF c self P a else
  let P:={P with fM:=P.fM.x_ a.bX a.vec P.S.vec}
  if a.kind≠4 then(lg P.S self a c.chunk,0,P)else
  let b:=P.S.missing a.vec c.chunk
  if b=[]then([],0,P)else([⟨3,self,a.bX,[],b⟩],0,P)
def iV(a:bM)(P:Int):Int×bM:=e_ c {a with D:=df (a.D.dV P),waits:=[],fM:=⟨a.fM.cZ,[],[]⟩}
def ej(P:bM):Int×bM:=match P.log with
 |none=>(15,P)
 |some b=>
  let a:=aQ b P.D P.S.l c.bh
  if a.no≠0 then(a.no,{P with D:=a.D})else(0,{P with D:=a.D,log:=some a.V})
end
def qT:lv:=⟨[],[],[],[],[(1,⟨[0,0,2,4,8,0,0,64,128,256,544,1040,4095,8191,12287],[32767,32767,32765,32763,32759,32767,32767,32703,32639,32511,32223,31727,32766,28671,22527],[0,0,0,0,1,0,0,0,0,1,0,0,0,0,2]⟩)]⟩
def qA(y:(dr d λA B=>(rI b (ad A (B+2)) λC=>PR_ (eq_ .quo 3 (.tmp 5) (.tmp 9) (.ii e) (.ii C)) b (kI_ λP D=>(∀a,bY D a->(dr d λE F=>(rS a (ad E (F+3)) λG a3 g=>(dr d λH I=>(rI a (ad H (I+2)) λf=>((0:Int)<=(XH .i64 (P*f))/\((XH .i64 (P*f)):Int)<=(g:Int)/\(dr d λJ K=>PS a (ad J (K+3)) (.slice G (Int.toNat (XH .i64 (P*f))) g) λh=>(dr d λL M=>(rS h (ad L (M+6)) λN i j=>((0:Int)<=(XH .i64 (P+1))/\((XH .i64 (P+1)):Int)<=(i:Int)/\PR_ (Builtin.clear_ #[220] 0 #[.slice (cE N (Int.toNat (XH .i64 (P+1))) j 2) (i-Int.toNat (XH .i64 (P+1))) (j-Int.toNat (XH .i64 (P+1)))]) h (λa4 k=>(dr d λO Q=>(rS k (ad O (Q+6)) λR a5 l=>((0:Int)<=(XH .i64 (P+1))/\((XH .i64 (P+1)):Int)<=(l:Int)/\(dr d λS T=>PS k (ad S (T+6)) (.slice R (Int.toNat (XH .i64 (P+1))) l) λc=>(dr d λU V=>(rS c (ad U (V+6)) λW X a6=>(ix_ W P X λm n=>(∃o p q r,c.cell? (ad m (n+Int.toNat P*2))=some (.pointer o)/\c.cell? (ad m (n+Int.toNat P*2+1))=some (.slice p q r)/\PC_ 180 #[.pointer d,.agg #[.pointer o,.slice p q r]] c (λY Z=>∃s t u v,Y= .agg #[.pointer s,.slice t u v]/\(dr d λw x=>PS Z (ad w (x+4)) (.pointer s) λa1=>PS a1 (ad w (x+4+1)) (.slice t u v) λa2=>rt z ((.tuple #[])) a2)) (pE z)))))))))) (pV z)))))))))))) (pV z)))):ZH 143 #[.pointer d,.ii e] b z:=DC qT Tryz.func143 rfl y
def iR:lv:=⟨[(3,[(7,QH 0),(8,QH 0)])],[],[],[],[]⟩
def iM(m:(∃j:Nat->Int->Int->XT,(∃h,j h 0 (a:Int) b)/\∀(h:Nat) (P:Int) (f:Int) (B:Nat->Value) (g:World),j h P f g->al (decide (P<f)) ((dr d λn o=>(0:Int)<=(XH .i64 (kv .u64 (XH .u64 (XH .i64 (P+f))) 1))/\(XH .i64 (kv .u64 (XH .u64 (XH .i64 (P+f))) 1))<(a:Int)/\(rI g (ad n (o+Int.toNat (XH .i64 (kv .u64 (XH .u64 (XH .i64 (P+f))) 1)))) λp=>PC_ 311 #[.ii p,.ii e] g (kB λq k=>al q ((∃i,i<h/\j i (XH .i64 ((XH .i64 (kv .u64 (XH .u64 (XH .i64 (P+f))) 1))+1)) f k)) ((∃i,i<h/\j i P (XH .i64 (kv .u64 (XH .u64 (XH .i64 (P+f))) 1)) k))) (pE z)))) (al (decide (P<(a:Int))) ((ix_ d P a λr s=>(rI g (ad r (s+Int.toNat P)) λt=>al (t==e) (rt z ((.tuple #[.ii P,.bool true])) g) ((ix_ d P a λu v=>(rI g (ad u (v+Int.toNat P)) λw=>PC_ 312 #[.ii w] g (kB λx l=>al x (PC_ 312 #[.ii e] l (kB λy A=>rt z ((.tuple #[.ii P,.bool y])) A) (pE z)) (rt z ((.tuple #[.ii P,.bool false])) l)) (pE z))))))) (rt z ((.tuple #[.ii P,.bool false])) g)))):ZH 279 #[.slice d a c,.ii e] b z:=DC iR Tryz.func279 rfl m
end
end Go.Proofs.YtblabbpipmodgaaGreatDoor
namespace Go.au
open Go
def nT(P:Int×Int):Value:=.agg #[QH P.1,QH P.2]
def AU(P:Int×Int×Int):Value:=.agg #[QH P.1,QH P.2.1,QH P.2.2]
structure HR (P:Program) (t ti:TypeId):Prop where
 hu:P.underlying t=some (.struct (P.fieldsOf t))
 ui:P.underlying ti=some (.int .i64)
 hf:∃n1 n2,(P.fieldsOf t).toList.map (λf=>(f.name,f.type,f.offset))=[(n1,ti,0),(n2,ti,1)]/\n1≠ "_"/\n2≠ "_"
 hp:P.stoodInHeld t=false
 hm:P.eqGuardType P.depth t=false
 ag:sP P ti=false
variable{Y c5 e u:Int}{V X:Operand}{m r:XN}{b:World}
section
variable {P:Program} {t ti:TypeId}
def HR.equalIn(b:HR P t ti)(f:Nat)(c d:Int×Int)(e:World):(Op.equalIn (f+2) t (nT c) (nT d)).run P e= .ok (c==d) e:=by
 obtain⟨v,w,a,g,h⟩:=b.hf;unfold nT;rw[run_equalIn_struct e (f+1) _ _ _ b.hu b.hp];generalize(P.fieldsOf t).toList=i at a
 match i,a with
 |[x,y],a=>
  simp only[QY,List.map_nil,List.cons.injEq,Prod.mk.injEq,and_true]at a;obtain⟨⟨j,k,l⟩,m,n,o⟩:=a;have p:(isAgg ti).run P e= .ok false e:=dS _ _ _ b.ag ⟨_,b.ui⟩ e;have q:=run_equalIn_int (P:=P) e f ti .i64 .i64 c.1 d.1 b.ui;have r:=run_equalIn_int (P:=P) e f ti .i64 .i64 c.2 d.2 b.ui;unfold Op.eqFields Op.eqFields Op.eqFields;rw[j,k,l,m,n,o];have s:(c==d)=(c.1==d.1&&c.2==d.2):=rfl;rw[s]
  cases b:c.1==d.1<;>simp[part,p,q,r,b,g,h]
  by_cases u:c.2=d.2<;>simp[u]
 |[],a=>simp at a
 |[_],a=>simp at a
 |_::_::_::_,a=>simp at a
def HR.eql(a:HR P t ti)(c:m (.bool (e==Y&&u==c5)) b):
  aG P (do eqGuard .eql t V X (.agg #[QH e,QH u]) (.agg #[QH Y,QH c5]);binOp .eql t (.agg #[QH e,QH u]) (.agg #[QH Y,QH c5]):Sem Value) b m r:=by
 refine aG.mk (v:=.bool (e==Y&&u==c5)) ?_ c;rw[Sem.run_bind,run_eqGuard_agg b .eql _ V X _ _ a.hm,Result.andThen_ok,run_eql_struct];have:=a.equalIn 9998 (e,u) (Y,c5) b;unfold nT at this;rw[this];rfl
def HR.neq(a:HR P t ti)(c:m (.bool (!(e==Y&&u==c5))) b):
  aG P (do eqGuard .neq t V X (.agg #[QH e,QH u]) (.agg #[QH Y,QH c5]);binOp .neq t (.agg #[QH e,QH u]) (.agg #[QH Y,QH c5]):Sem Value) b m r:=by
 refine aG.mk (v:=.bool (!(e==Y&&u==c5))) ?_ c;rw[Sem.run_bind,run_eqGuard_agg b .neq _ V X _ _ a.hm,Result.andThen_ok,run_neq_struct];have:=a.equalIn 9998 (e,u) (Y,c5) b;unfold nT at this;rw[this];rfl
def HR.check(c:HR P t ti)(e:Nat)(h:Int×Int)(b:World)(f:Bool):(Instr.checkKey f (e+2) t (nT h)).run P b= .ok () b:=by
 obtain⟨u,v,a,i,j⟩:=c.hf;have k:(isAgg ti).run P b= .ok false b:=dS _ _ _ c.ag ⟨_,c.ui⟩ b;have l:∀g:Int,(Instr.checkKey f (e+1) ti (QH g)).run P b= .ok () b:=λg=>by simp[Instr.checkKey,run_underlying c.ui]
 unfold nT;have m:=c.hu;unfold Instr.checkKey;rw[Sem.run_bind,run_underlying m,Result.andThen_ok];generalize w:P.fieldsOf t=d at a;obtain⟨d⟩:=d
 match d,a with
 |[x,y],a=>
  simp only[QY,List.map_nil,List.cons.injEq,Prod.mk.injEq,and_true]at a;obtain⟨⟨n,o,p⟩,q,r,s⟩:=a;simp[n,o,p,q,r,s,part,k,l,i,j]
 |[],a=>simp at a
 |[_],a=>simp at a
 |_::_::_::_,a=>simp at a
def HR.key(a:HR P t ti):iD P t nT:=
 iD.struct a.hu (λb c=>rfl) (λb c d=>a.equalIn 9998 b c d) (λe d f=>a.check 9998 e d f) (λg b=>by unfold nT;simp[Instr.sameBits]) λ{b c} a=>by
  unfold nT at a;simp only[Value.agg.injEq,Array.mk.injEq,List.cons.injEq,Value.int.injEq,and_true,true_and]at a;exact Prod.ext a.1 a.2
structure uY (P:Program) (t t2 ti:TypeId):Prop where
 two:HR P t2 ti
 hu:P.underlying t=some (.struct (P.fieldsOf t))
 hf:∃n1 n2,(P.fieldsOf t).toList.map (λf=>(f.name,f.type,f.offset))=[(n1,t2,0),(n2,ti,2)]/\n1≠ "_"/\n2≠ "_"
 hp:P.stoodInHeld t=false
 ag:sP P t2=true
 sz:(P.info? t2).map (·.size)=some 2
variable {t2:TypeId}
def uY.Pj(c:uY P t t2 ti)(b:Int×Int×Int)(a:World):(part t2 #[QH b.1,QH b.2.1,QH b.2.2] 0).run P a= .ok (nT (b.1,b.2.1)) a:=by
 obtain⟨h,d,e⟩:=Option.map_eq_some_iff.1 c.sz;have f:(isAgg t2).run P a= .ok true a:=dS _ _ _ c.ag ⟨_,c.two.hu⟩ a;have g:(sizeOf t2).run P a= .ok 2 a:=by simp[sizeOf,typeInfo,d,e]
 unfold part;simp[f,g,nT]
def uY.equalIn(e:uY P t t2 ti)(g:Nat)(a b:Int×Int×Int)(c:World):(Op.equalIn (g+3) t (AU a) (AU b)).run P c= .ok (a==b) c:=by
 obtain⟨A,B,d,i,j⟩:=e.hf;have k:=e.Pj a c;have l:=e.Pj b c;have h:=e.two.equalIn g (a.1,a.2.1) (b.1,b.2.1) c;have n:=run_equalIn_int (P:=P) c (g+1) ti .i64 .i64 a.2.2 b.2.2 e.two.ui;have o:(isAgg ti).run P c= .ok false c:=dS _ _ _ e.two.ag ⟨_,e.two.ui⟩ c;unfold AU;rw[run_equalIn_struct c (g+2) _ _ _ e.hu e.hp];generalize(P.fieldsOf t).toList=p at d
 match p,d with
 |[C,E],d=>
  simp only[QY,List.map_nil,List.cons.injEq,Prod.mk.injEq,and_true]at d;obtain⟨⟨q,r,s⟩,u,v,w⟩:=d;unfold Op.eqFields Op.eqFields Op.eqFields;rw[q,r,s,u,v,w];have x:(a==b)=(((a.1,a.2.1):Int×Int)==(b.1,b.2.1)&&a.2.2==b.2.2):=by
   show(a.1==b.1&&(a.2.1==b.2.1&&a.2.2==b.2.2))=((a.1==b.1&&a.2.1==b.2.1)&&a.2.2==b.2.2);rw[Bool.and_assoc]
  rw[x];have y:∀f:Int×Int×Int,(part ti #[QH f.1,QH f.2.1,QH f.2.2] 2).run P c= .ok (QH f.2.2) c:=λf=>by simp[part,o]
  cases m:((a.1,a.2.1):Int×Int)==(b.1,b.2.1)with
  |false=>
   rw[m]at h;simp[k,l,h,i,j]
  |true=>
   rw[m]at h;simp[k,l,h,n,y,i,j]
   by_cases z:a.2.2=b.2.2<;>simp[z]
 |[],d=>simp at d
 |[_],d=>simp at d
 |_::_::_::_,d=>simp at d
def uY.check(d:uY P t t2 ti)(e:Nat)(c:Int×Int×Int)(a:World)(f:Bool):(Instr.checkKey f (e+3) t (AU c)).run P a= .ok () a:=by
 obtain⟨x,y,b,i,j⟩:=d.hf;have k:=d.Pj c a;have l:(isAgg ti).run P a= .ok false a:=dS _ _ _ d.two.ag ⟨_,d.two.ui⟩ a;have m:∀h:Int,(Instr.checkKey f (e+2) ti (QH h)).run P a= .ok () a:=λh=>by simp[Instr.checkKey,run_underlying d.two.ui]
 have n:=d.two.check e (c.1,c.2.1) a f;have o:(part ti #[QH c.1,QH c.2.1,QH c.2.2] 2).run P a= .ok (QH c.2.2) a:=by simp[part,l]
 unfold AU;have p:=d.hu;rw[show e+3=(e+2)+1 from rfl];unfold Instr.checkKey;rw[Sem.run_bind,run_underlying p,Result.andThen_ok];generalize z:P.fieldsOf t=g at b;obtain⟨g⟩:=g
 match g,b with
 |[A,B],b=>
  simp only[QY,List.map_nil,List.cons.injEq,Prod.mk.injEq,and_true]at b;obtain⟨⟨q,r,s⟩,u,v,w⟩:=b;simp[q,r,s,u,v,w,k,o,n,m,i,j]
 |[],b=>simp at b
 |[_],b=>simp at b
 |_::_::_::_,b=>simp at b
def uY.key(a:uY P t t2 ti):iD P t AU:=
 iD.struct a.hu (λb c=>rfl) (λb c d=>a.equalIn 9997 b c d) (λe d f=>a.check 9997 e d f) (λg b=>by unfold AU;simp[Instr.sameBits]) λ{b c} a=>by
  unfold AU at a;simp only[Value.agg.injEq,Array.mk.injEq,List.cons.injEq,Value.int.injEq,and_true,true_and]at a;exact Prod.ext a.1 (Prod.ext a.2.1 a.2.2)
end
end Go.au
namespace Go.Proofs.YtblabbpipmodgaaGreatDoor
open Go.au
abbrev CS:Int×Int->Value:=nT
def Ki:HR XG 39 3:=⟨kR,kR,⟨ "Origin", "Seq",kR,dC,dC⟩,kR,kR,kR⟩
def Un:iD XG 39 CS:=Ki.key
abbrev rf:ah:=⟨0,0,0,[],0,0,0,0,0,0⟩
abbrev jJ(P:ah)(a:XU)(b c:Nat):Value:=.agg (aF P a b c).toArray
def Pa:lT XG 181 39 55 (jJ rf none 0 0):=⟨kR,kR⟩
def jV{d:World}{D:XM}:∀{P:List Int} {cs:List Value},bR aM d D P cs↔cs=ints P/\∀x∈P,aN x
 |[],cs=>by simp[bR,ints]
 |x::P,cs=>by
  constructor
  ·rintro⟨h,i,rfl,⟨rfl,e⟩,f⟩
   obtain⟨rfl,g⟩:=jV.1 f;exact⟨rfl,λb a=>by rcases Q2.1 a with rfl|a;exact e;exact g b a⟩
  ·rintro⟨rfl,c⟩
   exact⟨[QH x],ints P,rfl,⟨rfl,c x (QV ..)⟩,jV.2 ⟨rfl,λb a=>c b (QJ _ a)⟩⟩
variable{a1 o:Array Value}{e:Int}{b0 q:List Int}{a3:List Value}{I a c j p:Nat}{f:XM}{H:Nat×Nat}{d:XU}{h:Program}{i:Type}{A g n:TypeId}{v:Value}{m r:XN}{b k:World}{x:XT}{K l:ah}{C:ar}
def Pb(h:aV aM g f b d a c q)(n:j<q.length)(o:aN e)(r:d=some ⟨p,I,none⟩)(i:∀P,aV aM g f P d a c (q.set j e)->aj (λp=>aI d=some p) b P->P.heap.size=b.heap.size->x P):PS b ⟨p,I+j,none⟩ (QH e) x:=by
 obtain⟨cs,D,s,t,u⟩:=h.body;obtain⟨rfl,k⟩:=jV.1 t;refine s.set (m:=j) (by rw[je];exact n) r λP v w m=>i P ⟨⟨_,D,v,jV.2 ⟨?_,?_⟩,u⟩,h.self,λp k=>by rw[m];exact h.aE p k⟩ w m
 ·unfold ints;rw[List.map_set]
 ·intro y l
  rcases List.mem_or_eq_of_mem_set l with l|rfl
  ·exact k y l
  ·exact o
def Rh(c:World)(D:XM)(d:Value)(P:ah):Prop:=∃a b e,d=jJ P a b e/\Row aM 8 c D a b P.aJ/\P.Ok
def Rh.keep{S D:XM}(a:Rh b D v l)(c:aj S b k)(d:∀P,D P->¬S P):Rh k D v l:=by
 obtain⟨e,f,g,h,i,j⟩:=a;exact⟨e,f,g,h,i.keep c d,j⟩
def Rh.mono{D P:XM}(c:Rh b D v l)(d:∀a,D a->P a):Rh b P v l:=by
 obtain⟨e,f,g,h,i,j⟩:=c;exact⟨e,f,g,h,i.mono d,j⟩
def AF:rf.Ok:=by constructor<;>simp[aN]
def lL{D:XM}(i:Row aM 8 b D d a l.aJ)(u:∀P,D P->P<b.heap.size):
  ZH 142 #[jJ l d a c] b (Ok λv j=>∃d a c G,v=jJ l d a c/\Row aM 8 j G d a l.aJ/\(∀P,G P->b.heap.size<=P/\P<j.heap.size)/\ai b j):=by
 have w:=i.ef;have x:=i.len;refine xH (PA.mk λA o B f=>PA.mk λC g E k=>⟨_,_,_,ae (g.get f id) rfl,PC.ok (cC (i.af (o.then g)) λP e=>by have:=u P e;omega) ?_⟩);rintro _ F ⟨p,q,r,G,rfl,s,h,m⟩;have f:=h.get (g.get f id) id;have k:=h.get k id;refine⟨_,_,_,rfl,PS.mk f (by simp[aF]) λH n I y=>?_⟩;refine ay (cs:=aF l p q r) (bf _ _ _ _) y (aC (bf _ _ _ _) (n.get k oM) rfl λJ t K z=>ay (bf _ _ _ _) z (Ok.mk ⟨p,q,r,G,rfl,?_,?_,?_⟩))
 ·refine(((s.keep n λP e=>?_).keep t λP e=>?_).row (bytes:=8) dC (by rw[<-x];exact w))
  ·have:=m P e;omega
  ·have:=m P e;omega
 ·intro P e
  have:=m P e;have:=s.aE P e;omega
 ·have L:=h.size
  exact((aj.new ((o.then g).then h) n λP e=>.inr oM).new t λP e=>.inr oM)
structure Pc where
 a:XU
 n:Nat
 c:Nat
 r:Nat
 V:XM
 D:XM
 l:List ((Int×Int)×Value)
 L:List ((Int×Int)×ah)
structure qh (w:World) (p:Nat) (F:XM) (S:ar) (q:Pc):Prop where
 at':w.heap[p]? =some (.cells #[.slice q.a q.n q.c,.map (some q.r),QH S.top] 183 (0,0))
 vec:aV aM 3 q.V w q.a q.n q.c S.vec
 map:bU w q.r CS q.l
 rel:fh (Rh w q.D) q.l q.L
 key:∀x∈q.L,x.1=aX x.2
 TX:(q.L.map (·.2)).Perm S.l
 aE:∀b,F b->b<w.heap.size
 sub:∀b,b=p\/b=q.r\/q.V b\/q.D b->F b
 TY:p≠q.r
 Tg:¬q.V p/\¬q.V q.r
 TZ:¬q.D p/\¬q.D q.r
 Vq:∀b,q.V b->¬q.D b
def cF(a:World)(b:Nat)(c:XM)(P:ar):Prop:=P.OK/\∃d,qh a b c P d
section
variable {w w' w1:World} {p:Nat} {F T:XM} {S:ar} {q:Pc}
def qh.keep(P:qh w p F S q)(b:aj T w w')(d:∀a,F a->¬T a):qh w' p F S q:=
 ⟨b.get P.at' (d p (P.sub p (.inl rfl))),P.vec.keep b λa c=>d a (P.sub a (.inr (.inr (.inl c)))),P.map.keep b (d _ (P.sub _ (.inr (.inl rfl)))),
  P.rel.mono λf g e=>e.keep b λa c=>d a (P.sub a (.inr (.inr (.inr c)))),P.key,P.TX,λa c=>Qk (P.aE a c) b.size,P.sub,P.TY,P.Tg,P.TZ,P.Vq⟩
def qh.af(P:qh w p F S q)(a:ai w w'):qh w' p F S q:=P.keep a λ_ _ P=>P
def cF.keep(P:cF w p F S)(b:aj T w w')(c:∀a,F a->¬T a):cF w' p F S:=⟨P.1,P.2.imp λq d=>d.keep b c⟩
def cF.af(P:cF w p F S)(a:ai w w'):cF w' p F S:=P.keep a λ_ _ P=>P
def cF.aE(a:cF w p F S):∀P,F P->P<w.heap.size:=a.2.elim λq b=>b.aE
def qh.tidy(P:qh w p F S q):Tidy q.L:=by
 have:=P.map.tidy;unfold Tidy at*;rw[<-P.rel.keys];exact this
def qh.len(P:qh w p F S q):q.n=S.n:=by rw[P.vec.len dC,S.bZ]
def qh.T_(P:qh w p F S q)(a:S.OK):Row aM 8 w q.V q.a q.n S.vec:=P.vec.row dC (by rw[S.bZ];have:=a.n;unfold aS;omega)
def qh.look(a:qh w p F S q)(d:S.OK)(P:Int×Int):(aq q.l P=none/\S.get P=none)\/∃b c,aq q.l P=some b/\S.get P=some c/\Rh w q.D b c:=by
 rw[<-HH d a.key a.TX a.tidy P];exact a.rel.aq P
def kQ(P:cF w p F S):ZH 48 #[XP p] w (Ok (vh aM 3 w S.vec)):=by
 obtain⟨a,q,P⟩:=P;refine vq ⟨p,0,rfl,_,_,_,ae P.at' rfl,PC.ok (cC (P.T_ a) λb c=>P.vec.aE b c) ?_⟩;rintro _ j ⟨d,e,f,G,rfl,g,h,i⟩;exact⟨_,_,_,rfl,Ok.mk ⟨d,e,f,G,rfl,g,h,i⟩⟩
def EN(P:cF w p F S):ZH 90 #[XP p] w (Ok λa w'=>a= QH S.top/\w=w'):=by
 obtain⟨b,q,P⟩:=P;exact vv ⟨p,0,rfl,_,ae P.at' rfl,Ok.mk ⟨rfl,rfl⟩⟩
def Pd(r:cF w p F S){D:XM}(s:Row aM 8 w D d a l.aJ)(he:l.Ok)(hn:l.aJ.length=S.n){o:Nat}(ho:o<S.n):
  ZH 141 #[XP p,jJ l d a c,QH (o:Int)] w (Ok λk w'=>k= .bool (S.lr l o)/\ai w w'):=by
 obtain⟨t,q,r⟩:=r;have b1:=s.len;have hN:=t.n;refine tG (PA.mk λw1 j s1 L=>?_);have Z:=s.af j;obtain⟨u,v,g,ha,hx,-,hc⟩:=Z.lq (i:=o) oM;have M:l.aJ.getD o 0=g:=by rw[QQ,hx];rfl
 refine⟨_,_,_,ae L rfl,u,v,ha,oM,oM,g,hc,al.dU (λx=>Ok.mk ⟨?_,j⟩) (λx=>?_)⟩
 ·unfold ar.lr;simp only[M,x];rfl
 have y:=r.af j;have e:∀{z:Bool} {w':World},ai w w'->(match S.get (o,g)with
  |none=>false
  |some b=>decide (b.aA<l.aA)&&(List.range b.aJ.length).all λi=>decide (b.aJ.getD i 0<=l.aJ.getD i 0))=z->Ok (λk w'=>k= .bool (S.lr l o)/\ai w w') (.returned (.bool z)) w':=λ{z w'} hg hy=>by
  refine Ok.mk ⟨?_,hg⟩;unfold ar.lr;simp only[M];rw[<-hy,show(g==0)=false by simpa using x]
  rfl
 refine⟨p,0,rfl,_,ae y.at' rfl,lU (enc:=CS) (k:=((o:Int),g)) Pa Un y.map ?_⟩;rcases y.look t (o,g)with⟨A,h⟩|⟨k,b,A,h,N,m,O,rfl,a0,b2⟩
 ·rw[A]
  refine cD (rR rf none 0 0) ⟨_,rfl,PA.mk λw2 B s2 C=>aC (bf rf none 0 0) C rfl λE H s3 I=>al.tt rfl (e (j.then ((B.then (aj.refl _)).new H λu hb=>.inr oM)) ?_)⟩;rw[h]
 ·rw[A]
  refine cD (rR b N m O) ⟨_,rfl,PA.mk λw2 B s2 C=>aC (bf b N m O) C rfl λE H s3 I=>al.ff rfl ?_⟩;have J:ai w1 E:=(B.then (aj.refl _)).new H λu hb=>.inr oM;have n:=j.then J;have Q:=J.get L id;have a1:=ar.get_some h;have b3:b.aJ.length=S.n:=by have:=lX (t.Ui b a1.1);omega
  refine⟨_,ae I rfl,_,ae Q rfl,al.dec (λhl=>e n ?_) (λhl=>?_)⟩
  ·rw[h]
   simp only[Bool.and_eq_false_iff,decide_eq_false_iff_not];left;omega
  have a2:=s.af n;have R:=a0.af J;have b6:=R.len;refine⟨_,_,_,ae I rfl,λT i w'=>∃P:Nat,i=P/\P<=m/\T=m-P/\(∀f,f<P->b.aJ.getD f 0<=l.aJ.getD f 0)/\E=w',⟨_,0,rfl,Qj _,rfl,λf K=>oM,rfl⟩,?_⟩;rintro T i _ _ ⟨P,rfl,hj,rfl,U,rfl⟩;refine al.dec (λb7=>?_) (λb8=>?_)
  ·obtain⟨b4,o4,V,a3,a4,-,a5⟩:=R.lq (i:=P) oM
   obtain⟨b5,o5,W,a6,a7,-,a8⟩:=a2.lq (i:=P) oM;have X:b.aJ.getD P 0=V:=by rw[QQ,a4];rfl
   have Y:l.aJ.getD P 0=W:=by rw[QQ,a7];rfl
   refine⟨b4,o4,a3,oM,oM,V,a5,_,_,_,ae Q rfl,b5,o5,a6,oM,oM,W,a8,al.dec (λa9=>e n ?_) (λb9=>?_)⟩
   ·rw[h]
    simp only[Bool.and_eq_false_iff];right;rw[List.all_eq_false];exact⟨P,by simp;omega,by rw[X,Y];simpa using a9⟩
   ·refine⟨_,oM,P+1,an oM,oM,rfl,λf K=>?_,rfl⟩
    by_cases b0:f=P
    ·subst b0;rw[X,Y];omega
    ·exact U f oM
  ·refine e n ?_
   rw[h];simp only[QK,ZY,Zk];exact⟨oM,λf K=>U f (by simp at K;omega)⟩
def PF(e:cF w p F S)(k:Int×Int):
  ZH 232 #[XP p,CS k] w (Ok λz w'=>∃c d f G,z= .tuple #[jJ ((S.get k).getD rf) c d f,.bool (S.get k).isSome]/\Row aM 8 w' G c d ((S.get k).getD rf).aJ/\(∀P,G P->w.heap.size<=P/\P<w'.heap.size)/\ai w w'):=by
 obtain⟨L,q,e⟩:=e;obtain⟨i,j⟩:=k;refine vI (PA.mk λw1 M s1 l=>PA.mk λA B s2 u=>λm C=>?_);have v:ai A m:=C.keep;have s3:m.heap.size=A.heap.size:=by rw[C.heap]
 have l:=v.get (B.get l id) id;have u:=v.get u id;have E:=(M.then B).then v;have x:=e.af E;have a2:=e.map.lt;have a3:=aB e.at';obtain⟨b,c,d,f,P,g,h,H,N,O⟩:∃(b:ah) (c:XU) (d f:Nat) (P:Bool),(aq q.l (i,j)).getD (jJ rf none 0 0)=jJ b c d f/\(aq q.l (i,j)).isSome=P/\(S.get (i,j)).getD rf=b/\(S.get (i,j)).isSome=P/\Row aM 8 m q.D c d b.aJ:=by
  rcases x.look L (i,j)with⟨g,h⟩|⟨z,Q,g,h,R,T,U,rfl,V,a4⟩
  ·exact⟨rf,none,0,0,false,by rw[g];rfl,by rw[g];rfl,by rw[h];rfl,by rw[h];rfl,Row.nil _ _⟩
  ·exact⟨Q,R,T,U,true,by rw[g];rfl,by rw[g];rfl,by rw[h];rfl,by rw[h];rfl,V⟩
 have I:∀P,q.D P->P<w.heap.size:=λP a=>e.aE P (e.sub P (.inr (.inr (.inr a))));refine⟨λP=>P=m.heap.size,p,0,rfl,oM,_,ae x.at' rfl,oM,_,_,ae l rfl,ae l rfl,cD (rR b c d f) ⟨P,λw' W=>?_,PA.mk λw4 n s4 X=>⟨ai.keep n,aC (bf b c d f) X rfl λw5 o s5 Y=>⟨o,?_⟩⟩⟩⟩
 ·have:=eB Pa Un (x.map.keep W oM) (i,j) true
  rw[g,h]at this;exact this
 have Z:=(O.af n).keep o λP a hn=>by have:=I P a;omega
 refine ay (bf b c d f) Y (PC.ok (lL Z λP a=>by have:=I P a;omega) ?_);rintro _ w6 ⟨r,s,t,G,rfl,a0,J,y⟩;have a1:=y.get (o.get (n.get u id) oM) id;have z6:=y.size;refine cD (rR b r s t) ⟨rfl,aC (bf b r s t) a1 rfl λw7 K s7 g7=>ay (bf b r s t) g7 (Ok.mk ⟨r,s,t,G,by rw[H,N],?_,?_,?_⟩)⟩
 ·rw[H];exact a0.keep K λP a hn=>by have:=J P a;omega
 ·intro P a;have:=J P a;omega
 ·exact(((E.then n).new o λP a=>.inr oM).then y).new K λP a=>.inr oM
end
section
variable {w w' w1:World} {p:Nat} {F T:XM} {S:ar} {q:Pc}
def BQ{S:ar}:((List.range a).any λP=>!S.lr l P)=false↔∀P,P<a->S.lr l P=true:=by
 simp[List.any_eq_false]
def tk(f:cF w p F S){e:ah}{D:XM}(A:Row aM 8 w D d a e.aJ)(hD:∀P,D P->P<w.heap.size/\¬F P)(he:e.Ok)(hl:S.l.length<4611686018427387904):
  ZH 75 #[XP p,jJ e d a c] w (Ok λB w'=>B= QH (S.add e).1/\∃C,cF w' p C (S.add e).2/\cO F w C w'):=by
 have fQ:=f;obtain⟨E,q,f⟩:=f;have hN:=E.n;have b2:=f.len;have i9:=aB f.at';have j0:=f.map.lt;have d3:=f.T_ E;have g:∀{no:Int} {w':World},ai w w'->S.add e=(no,S)->Ok (λB w'=>B= QH (S.add e).1/\∃C,cF w' p C (S.add e).2/\cO F w C w') (.returned (QH no)) w':=λ{no w'} hg ha=>by
  refine Ok.mk ⟨by rw[ha],F,?_,ai.keep hg,λP b=>.inl b⟩;rw[ha];exact fQ.af hg
 refine vr (PA.mk λw1 k1 s1 g1=>λw2 d2=>?_);have k2:ai w1 w2:=d2.keep;have s2:w2.heap.size=w1.heap.size:=by rw[d2.heap]
 have N:=k1.then k2;have g2:=k2.get g1 id;have h4:=f.af N;refine ay (bf e d a c) g2 ⟨p,0,rfl,_,_,_,ae h4.at' rfl,PC.ok (wF (A.af N) (by rw[b2];omega)) ?_⟩;rintro _ w3 ⟨rfl,O⟩;rw[b2];refine⟨_,rfl,al.dQ (λH=>g (N.then O) ?_) (λQ=>?_)⟩
 ·rw[ar.add_def,Zx H]
 obtain⟨c1,c5,c3,c6,c7,c8,c9,f0,f1,j1⟩:=lX Q;obtain⟨o,n⟩:∃o:Nat,e.origin=o:=⟨e.origin.toNat,oM⟩
 have I:o<S.n:=oM
 intro w4 d4;have k4:ai w3 w4:=d4.keep;have s4:w4.heap.size=w3.heap.size:=by rw[d4.heap]
 have d5:=(N.then O).then k4;have z3:=O.size;have g4:=k4.get (O.get g2 id) id;have b3:=f.af d5;obtain⟨r,a5,n5,d6,P,m,J,j⟩:∃(r:ah) (d:XU) (a c:Nat) (P:Bool),(aq q.l (aX e)).getD (jJ rf none 0 0)=jJ r d a c/\(aq q.l (aX e)).isSome=P/\(S.get (aX e)).isSome=P:=by
  rcases b3.look E (aX e)with⟨m,J⟩|⟨B,a0,m,J,b8,n3,c3,rfl,j2,j3⟩
  ·exact⟨rf,none,0,0,false,by rw[m];rfl,by rw[m];rfl,by rw[J];rfl⟩
  ·exact⟨a0,b8,n3,c3,true,by rw[m];rfl,by rw[m];rfl,by rw[J];rfl⟩
 refine⟨λP=>P=w4.heap.size,p,0,rfl,oM,_,ae b3.at' rfl,oM,_,_,ae g4 rfl,ae g4 rfl,cD (rR r a5 n5 d6) ⟨P,λw' K=>?_,PA.mk λw5 k5 s5 g5=>⟨ai.keep k5,aC (bf r a5 n5 d6) g5 rfl λw6 k6 s6 g6=>⟨k6,?_⟩⟩⟩⟩
 ·have:=eB Pa Un (b3.map.keep K oM) (aX e) true
  rw[m,J]at this;exact this
 have R:ai w w6:=(d5.then k5).new k6 λP b=>.inr oM;have b4:=k6.get (k5.get g4 id) oM;have h5:=f.af R;refine al.mk (λs=>g R ?_) (λhf=>?_)
 ·rw[ar.add_def,Zq (by simpa using Q),Zx (by rw[j,s])]
 obtain⟨c2,o8,x8,h6,d8,-,h7⟩:=(d3.af R).lq (i:=o) oM;have d9:x8=(S.Dt o:Int):=by rw[S.nE I]at d8;exact(XJ d8).symm
 subst d9;have j4:=S.OQ o;refine⟨_,ae b4 rfl,p,0,rfl,_,_,_,ae h5.at' rfl,_,ae b4 rfl,c2,o8,h6,c1,oM,_,by rw[n];exact h7,λw7 d7=>?_⟩;have k7:ai w6 w7:=d7.keep;have s7:w7.heap.size=w6.heap.size:=by rw[d7.heap]
 have b5:=R.then k7;rw[an oM];refine al.dQ (λH=>g b5 ?_) (λe0=>?_)
 ·rw[ar.add_def,Zq (by simpa using Q),Zq (by rw[j,hf];simp),Zx]
  rw[n,Qx,S.tq I];simpa using H
 have h8:=f.af b5;have h9:=k7.get b4 id;have c4:e.seq=S.vec.getD e.origin.toNat 0+1:=by rw[n,Qx,S.tq I];simpa using e0
 have k:∀{a1:Int×ar},(if(List.range S.n).any λo=>!S.lr e o then((9:Int),S)else(0,⟨S.n,dA e S.l⟩))=a1->S.add e=a1:=λ{a1} A=>by
  rw[ar.add_def,Zq (by simpa using Q),Zq (by rw[j,hf];simp),Zq (by simpa using c4)];exact A
 refine⟨p,0,rfl,_,_,_,ae h8.at' rfl,λa3 i w'=>∃h:Nat,i=h/\h<=S.n/\a3=S.n-h/\(∀l,l<h->S.lr e l=true)/\ai w7 w',⟨_,0,rfl,Qj _,rfl,λl s=>oM,aj.refl _⟩,?_⟩;rintro a3 i _ w8 ⟨h,rfl,hj,rfl,a4,T⟩;have U:=b5.then T;have e1:=T.get h9 id;have z8:=T.size;rw[b2];refine al.dec (λj5=>?_) (λj6=>?_)
 ·refine ay (bf e d a c) e1 (PC.ok (Pd (fQ.af U) (A.af U) he oM (o:=h) oM) ?_)
  rintro _ w9 ⟨rfl,k9⟩;refine⟨_,rfl,al.not (al.mk (λK=>?_) (λK=>g (U.then k9) (k (Zx ?_))))⟩
  ·refine⟨_,oM,h+1,an oM,oM,rfl,λl s=>?_,T.then k9⟩
   by_cases i0:l=h
   ·rw[i0];exact K
   ·exact a4 l oM
  ·rw[List.any_eq_true]
   exact⟨h,by simp;omega,by rw[K];rfl⟩
 ·have a6:=k (Zq (by rw[Bool.not_eq_true,BQ];intro l s;exact a4 l oM))
  intro e2 e3;have e4:ai w8 e2:=e3.keep;have j7:e2.heap.size=w8.heap.size:=by rw[e3.heap]
  have L:=U.then e4;have V:=e4.get e1 id;have e5:=f.af L;have i1:=(A.af L)
  refine⟨λP=>P=q.r,p,0,rfl,f.TY,_,ae e5.at' rfl,oM,_,_,ae V rfl,ae V rfl,ay (bf e d a c) V (PC.ok (lL i1 λP b=>by have:=(hD P b).1;have:=L.size;omega) ?_)⟩;rintro _ i2 ⟨b7,b9,c0,G,rfl,e6,hG,W⟩;have a7:=L.then W;have X:=f.af a7;have i8:=L.size;refine cD (rR e b7 b9 c0) ⟨rfl,ai.keep W,iN (enc:=CS) (k:=aX e) Pa Un X.map λe7 e8 t j8=>⟨t,λe9 f2=>?_⟩⟩;have u:ai e7 e9:=f2.keep;have j9:e9.heap.size=e7.heap.size:=by rw[f2.heap]
  have a8:=u.get (t.get X.at' f.TY) id;have a9:=u.get (t.get (W.get V id) oM) id;have b0:=(X.vec.keep t λP b e=>f.Tg.2 (e▸b)).af u;obtain⟨f3,f5,i3,a2,b1,-,f6⟩:=(b0.row (bytes:=8) dC (by rw[S.bZ];unfold aS;omega)).lq (i:=o) oM;have d0:i3=(S.Dt o:Int):=by rw[S.nE I]at b1;exact(XJ b1).symm
  subst d0;refine⟨p,0,rfl,_,_,_,ae a8 rfl,_,ae a9 rfl,f3,f5,a2,c1,oM,_,by rw[n];exact f6,f3,f5,a2,c1,oM,?_⟩;rw[n,Qx,an oM];refine Pb b0 (by rw[S.bZ];exact I) bb a2 λf7 g0 M k0=>λg3 g7=>?_;have v:ai f7 g3:=g7.keep;have l0:g3.heap.size=f7.heap.size:=by rw[g7.heap]
  have x:∀P,aI q.a=some P->q.V P:=λP b=>f.vec.self P b;have i4:¬aI q.a=some p:=λe=>f.Tg.1 (x p e);have i5:¬aI q.a=some w.heap.size:=λe=>by have:=f.vec.aE _ (x _ e);omega
  have b6:=v.get (M.get a8 i4) id;have g8:=v.get (M.get a9 i5) id;refine⟨p,0,rfl,_,ae b6 rfl,_,ae g8 rfl,p,0,rfl,PS.mk b6 sM λg9 Y l3 i6=>?_⟩;have l4:=W.size;have i7:¬aI q.a=some q.r:=λe=>f.Tg.2 (x _ e);refine Ok.mk ⟨by rw[a6],λP=>F P\/G P,?_,?_,?_⟩
  rotate_left
  ·have Z:aj F w g9:=((((ai.keep a7).then (t.mono λP _ b=>f.sub P (.inr (.inl b)))).then (ai.keep u)).then ((M.mono λP _ b=>f.sub P (.inr (.inr (.inl (x P b))))).then (ai.keep v))).then (Y.mono λP _ b=>f.sub P (.inl b))
   exact Z
  ·intro P b;rcases b with b|b
   ·exact .inl b
   ·exact .inr (by have:=hG P b;omega)
  have h3:=(ar.yy E he).1;rw[a6]at h3⊢;have y:∀P,G P->P≠p/\P≠q.r/\¬q.V P:=λP b=>by
   have:=hG P b;refine⟨oM,oM,λhv=>?_⟩;have:=f.vec.aE P hv;omega
  refine⟨h3,⟨q.a,q.n,q.c,q.r,q.V,λP=>q.D P\/G P,aH q.l (aX e) (jJ e b7 b9 c0),aH q.L (aX e) e⟩,?_,?_,?_,?_,?_,?_,?_,?_,f.TY,f.Tg,?_,?_⟩
  ·have s:(if e.aA>S.top then e.aA else S.top)=max S.top e.aA:=by split<;>omega
   rw[i6,ar.Ri,<-s];rfl
  ·rw[show ar.vec ⟨S.n,dA e S.l⟩=S.vec.set o ((S.Dt o+1:Nat):Int) by rw[ar.Rj S e n];simp]
   exact(g0.af v).keep Y λP b e=>f.Tg.1 (e▸b)
  ·exact(((e8.af u).keep M i7).af v).keep Y λe=>f.TY e.symm
  ·have Z:aj (λP=>P=q.r\/aI q.a=some P\/P=p) i2 g9:=((t.mono λP _ b=>.inl b).then (ai.keep u)).then (((M.mono λP _ b=>.inr (.inl b)).then (ai.keep v)).then (Y.mono λP _ b=>.inr (.inr b)))
   have hd:∀P,q.D P\/G P->¬(P=q.r\/aI q.a=some P\/P=p):=by
    rintro P (b|b) (e|e|e)
    ·exact f.TZ.2 (e▸b)
    ·exact f.Vq P (x P e) b
    ·exact f.TZ.1 (e▸b)
    ·exact(y P b).2.1 e
    ·exact(y P b).2.2 (x P e)
    ·exact(y P b).1 e
   refine fh.aH ⟨b7,b9,c0,rfl,(e6.mono λP b=>.inr b).keep Z hd,he⟩ (X.rel.mono λB f4 hu=>(hu.mono λP b=>.inl b).keep Z hd)
  ·intro r j
   rcases fe j with rfl|j
   ·rfl
   ·exact f.key r j
  ·have d1:aq q.L (aX e)=none:=by
    rw[HH E f.key f.TX f.tidy];have:=j.trans hf;simpa using this
   have:∀z:List ((Int×Int)×ah),aq z (aX e)=none->aH z (aX e) e=z++[(aX e,e)]:=by
    intro z
    induction z with
    |nil=>intro _;rfl
    |cons a0 z ih=>
     intro hL;obtain⟨y1,y2⟩:=a0;unfold aq at hL;unfold aH;split at hL
     ·cases hL
     ·rename_i H
      rw[Zq H,ih hL];rfl
   rw[this _ d1,Q3];exact(List.perm_append_comm.trans (List.Perm.cons e f.TX)).trans (cP e S.l).symm
  ·intro P b
   rcases b with b|b
   ·have:=f.aE P b;omega
   ·have:=hG P b;omega
  ·rintro P (b|b|b|b|b)
   ·exact .inl (f.sub P (.inl b))
   ·exact .inl (f.sub P (.inr (.inl b)))
   ·exact .inl (f.sub P (.inr (.inr (.inl b))))
   ·exact .inl (f.sub P (.inr (.inr (.inr b))))
   ·exact .inr b
  ·refine⟨?_,?_⟩
   ·rintro(b|b)
    ·exact f.TZ.1 b
    ·exact(y _ b).1 rfl
   ·rintro(b|b)
    ·exact f.TZ.2 b
    ·exact(y _ b).2.1 rfl
  ·rintro P hv (b|b)
   ·exact f.Vq P hv b
   ·exact(y _ b).2.2 hv
def Rk(e:jx h g n 1 8)(b:(h.info? n).bind (·.zero)=some (QH 0))(f:a<=c)(P:c*8<=aS){w:World}(d:∀w',aV aM n (·=w.heap.size) w' (XL w.heap.size) a c (List.replicate a 0)->ai w w'->w'.heap.size=w.heap.size+1->m (.slice (XL w.heap.size) a c) w'):
  aG h (Instr.makeSlice g (QH (a:Int)) (QH (c:Int))) w m r:=by
 unfold aS at P;obtain⟨l,o,i,j,p,q,y⟩:=e.info;have s:o= QH 0:=by
  rw[i]at b;simp only[Option.bind_some,j]at b;exact XJ b
 subst s;have k:=run_make (P:=h) w g n l _ e.under i j .i64 .i64 a c oM oM (by rw[q];omega) oM;rw[Qx,Qx,p,Nat.mul_one]at k;have t:ai w (w.alloc (.cells (madeCells (Value.int .i64 0).cells c) n)):=aj.alloc w _;have u:(madeCells (Value.int .i64 0).cells c).toList=List.replicate c (QH 0):=by
  unfold madeCells;rw[Array.toList_map];apply List.ext_getElem
  ·simp
  ·intro z A B
   simp[Value.cells,Nat.mod_one]
 refine aG.mk k (d _ ⟨⟨List.replicate a (QH 0),λ_=>False,⟨⟨by simp[aM,flat],.inr ⟨w.heap.size,c,_,rfl,Qj _,heap_alloc_new w _,f,by unfold maxLen;omega,by simp[size_madeCells,aM,flat],?_⟩⟩⟩,?_,λ_ d=>d.elim⟩,λv P=>by simpa[aI]using P.symm,λv P=>by subst P;simp⟩ t sM)
 ·rw[u]
  simp only[aM,flat,Nat.mul_one,List.take_replicate];rw[X2 f]
 ·exact jV.2 ⟨by simp[ints],λC x=>by rw[List.eq_of_mem_replicate x];simp[aN]⟩
def Dg(g:a<=64):ZH 72 #[QH (a:Int)] w (Ok λh w'=>∃p F,h= XP p/\cF w' p F ⟨a,[]⟩/\(∀P,F P->w.heap.size<=P)/\ai w w'):=by
 refine DK (Rk q_ kR (Q4 _) ba λw1 i j r=>⟨_,_,_,rfl,PA.mk λe f s k=>PA.mk λl c t m=>Ok.mk ⟨_,λP=>w.heap.size<=P/\P<l.heap.size,rfl,⟨ar.rL g,⟨_,a,a,w1.heap.size,(·=w.heap.size),λ_=>False,[],[]⟩,m,?_,bU.new (c.get k id),trivial,sM,List.Perm.refl _,λP b=>b.2,?_,by show e.heap.size≠w1.heap.size;omega,⟨by show e.heap.size≠_;omega,by show w1.heap.size≠_;omega⟩,⟨id,id⟩,λ_ _ n=>n⟩,λP b=>b.1,(j.then f).then c⟩⟩)
 ·have o:ar.vec ⟨a,[]⟩=List.replicate a 0:=by
   apply X3;intro q
   by_cases d:q<a
   ·rw[ar.nE ⟨a,[]⟩ d];simp[d,ar.Dt]
   ·rw[Q7 (by rw[ar.bZ];exact Nat.le_of_not_lt d),Q7 bc]
  rw[o];exact(i.af f).af c
 ·rintro P (rfl|rfl|rfl|b)
  ·show _/\_;omega
  ·show _<=w1.heap.size/\w1.heap.size<_;omega
  ·omega
  ·exact b.elim
end
def fk{c:jK i}{q p:Nat}{s:List i}{bytes:Nat}{x:i}(l:aV c g f b d q p s)(J:jx h n g c.k bytes)(N:b.heap[a]? =some (.cells o g H)){D:XM}(z:c.rep b D x o.toList)(t:∀P,D P->P<b.heap.size/\aI d≠some P)(e:(s.length+1)*bytes<=aS)(O:s.length+1<=maxLen)(B:∀u k C v,aV c g v C u (q+1) k (s++[x])->aj (λF=>aI d=some F) b C->(∀P,v P->f P\/D P\/b.heap.size<=P)->m (.slice u (q+1) k) C):
  aG h (Builtin.append_ #[n,n] A #[.slice d q p,.slice (XL a) 1 1]) b m r:=by
 have K:=l.len J.pos;obtain⟨cs,Q,R,S,w⟩:=l.body;have V:=c.len z;refine ye J (news:=o.toList) R N (by rw[Qz oM]) oM (c.one z) (by rw[K];exact e) (by rw[K];exact O) λu T y L M E=>?_;have I:aj (λF=>aI d=some F) b y:=(M.mono λ_ _ l=>l.symm)
 let v:XM:=λP=>f P\/D P\/(b.heap.size<=P/\P<y.heap.size)
 have W:b.heap.size<=y.heap.size:=M.size;refine B u T y v ⟨⟨_,λP=>Q P\/D P,L,bR.append ((S.keep I λP e=>(w P e).2).mono λP e=>.inl e) (bR.one (c.mono (c.keep z I λP e=>(t P e).2) λP e=>.inr e)),?_⟩,?_,?_⟩ I ?_
 ·intro P e
  have X:P<b.heap.size:=e.elim (λj=>l.aE P (w P j).1) λj=>(t P j).1;refine⟨e.elim (λj=>.inl (w P j).1) λj=>.inr (.inl j),?_⟩;rcases E with E|E
  ·rw[E];exact e.elim (λj=>(w P j).2) λj=>(t P j).2
  ·rw[E];intro U;cases U;omega
 ·intro P e
  rcases E with E|E
  ·exact .inl (l.self P (E▸e))
  ·have:=L.lt e
   rw[E]at e;cases e;exact .inr (.inr ⟨oM,this⟩)
 ·rintro P (e|e|e)
  ·have:=l.aE P e;omega
  ·have:=(t P e).1;omega
  ·exact e.2
 ·rintro P (e|e|e)
  ·exact .inl e
  ·exact .inr (.inl e)
  ·exact .inr (.inr e.1)
def J_{D j:XM}(e:Row aM 8 b D d a q)(f:Row aM 8 b j d a b0):q=b0:=by
 have o:=e.len;have p:=f.len;apply List.ext_getElem oM;intro i k l;obtain⟨r,s,t,m,g,-,n⟩:=e.lq (i:=i) oM;obtain⟨u,v,w,P,h,-,c⟩:=f.lq (i:=i) oM;rw[m]at P;cases P
 rw[n]at c;cases c
 rw[Qq k]at g;rw[Qq l]at h;rw[XJ g,XJ h]
section
def AN(c:World)(D:XM)(d:ar)(e:List Value)(P:ah):Prop:=∃a b f,e=[jJ P a b f]/\Row aM 8 c D a b P.aJ/\P.Ok/\P∈d.l
def qi{P b:Type}(c:P->b->Prop):List P->List b->Prop
 |[],[]=>True
 |a::d,e::f=>c a e/\qi c d f
 |_,_=>False
def qi.snoc{P a:Type}{b:P->a->Prop}{c:P}{d:a}(e:b c d):∀{f:List P} {g:List a},qi b f g->qi b (f++[c]) (g++[d])
 |[],[],_=>⟨e,trivial⟩
 |_::_,_::_,h=>⟨h.1,qi.snoc e h.2⟩
def qi.length{P a:Type}{d:P->a->Prop}:∀{b:List P} {c:List a},qi d b c->b.length=c.length
 |[],[],_=>rfl
 |_::_,_::_,e=>by simp[qi.length e.2]
def AN.unique{D:XM}(a:AN b D C a3 l)(c:AN b D C a3 K):l=K:=by
 obtain⟨f,g,h,rfl,d,-,-⟩:=a;obtain⟨i,j,k,P,e,-,-⟩:=c;simp only[aF,List.cons.injEq,Value.agg.injEq,Array.mk.injEq,Value.int.injEq,XX,and_true,true_and]at P;obtain⟨m,n,o,⟨rfl,rfl,rfl⟩,p,q,r,s,t,u⟩:=P;have:=J_ d e
 cases l;cases K;simp_all
def qi.unique{a:World}{D:XM}{b:ar}:∀{P:List (List Value)} {c d:List ah},qi (AN a D b) P c->qi (AN a D b) P d->c=d
 |[],[],[],_,_=>rfl
 |_::_,_::_,_::_,e,f=>by rw[e.1.unique f.1,qi.unique e.2 f.2]
variable {w w9 w1 A B:World} {p bo:Nat} {F:XM} {S:ar} {q:Pc} {Pr:ah->Bool} {s:World×(XM)} {pre:List (List Value)}
structure SJ (w9:World) (bo:Nat) (D:XM) (S:ar) (Pr:ah->Bool) (s:World×(XM)) (pre:List (List Value)) (A:World):Prop where
 keep:aj (·=bo) w9 A
 own:aj (dK s.2) s.1 A
 out:∀b,s.2 b->b≠w9.heap.size/\b≠w9.heap.size+1/\b≠bo
 aE:∀b,s.2 b->b<A.heap.size
 ef:w9.heap.size+2<=A.heap.size
 oD:∃a n c G L,A.heap[bo]? =some (.cells #[.slice a n c] 50 (0,0))/\aV iC 55 G A a n c (L.filter Pr)/\(∀b,G b->w9.heap.size+2<=b/\¬s.2 b)/\qi (AN w9 D S) pre L/\L.length<=S.l.length
def SJ.af(a:SJ w9 bo q.D S Pr s pre A)(P:ai A B):SJ w9 bo q.D S Pr s pre B:=by
 obtain⟨b,c,d,e,f,g,h,i,G,j,k,l,m,n⟩:=a;exact⟨b.af P,c.af P,d,λo p=>Qk (e o p) P.size,Xx f P.size,g,h,i,G,j,P.get k id,l.af P,m,n⟩
def SJ.fB(t:bo<w9.heap.size)(c:SJ w9 bo q.D S Pr s pre A)(f:xv (w9.heap.size+1) A B):SJ w9 bo q.D S Pr s pre B:=by
 obtain⟨g,h,d,i,u,j,k,l,G,m,n,o,e,p⟩:=c;obtain⟨b,v⟩:=f;exact⟨g.new b λP a=>.inr oM,h.trans b (λ_ _ c=>c) λP _ a r=>(d P r).2.1 a,d,λP a=>by have:=i P a;omega,oM,j,k,l,G,m,b.get n oM,o.keep b λP a w=>by have:=(e P a).1;omega,e,p⟩
def SJ.re(P:SJ w9 bo q.D S Pr s pre A):SJ w9 bo q.D S Pr (A,s.2) pre A:=⟨P.keep,aj.refl _,P.out,P.aE,P.ef,P.oD⟩
def Pe{R:XT}(c1:bo<w9.heap.size)(hS:S.OK)(f:qh w9 p F S q)(v:∃d a3,w9.heap[a]? =some (.cells #[.map (some q.r)] d a3))(w:a≠bo)(x:¬F bo)(y:∀A B,R A->aj (tr w9) A B->R B)(hy:∀s pre n A,SJ w9 bo q.D S Pr s pre A->R A->vj [jJ rf none 0 0] n->(pre.length<S.l.length/\∃d,AN w9 q.D S n d)->lu XG (w9.heap.size+1) n A λP z=>P=true/\SJ w9 bo q.D S Pr s (pre++[n]) z/\R z)(o:SJ w9 bo q.D S Pr (w9,no) [] w1)(a7:R w1):
  ZH 205 #[.func (.yield (w9.heap.size+1)) #[] #[],XP a] w1 (Ok λa4 g=>R g/\∃s l,SJ w9 bo q.D S Pr s l g/\∃r,qi (AN w9 q.D S) l r/\r.Perm S.l):=by
 obtain⟨e2,f2,v⟩:=v;have c2:=f.map.lt;have a8:qh w1 p F S q:=f.keep o.keep λP b d=>x (d▸b);have hD:∀P,q.D P->P<w9.heap.size/\P≠bo:=λP b=>⟨f.aE P (f.sub P (.inr (.inr (.inr b)))),λd=>x (d▸f.sub P (.inr (.inr (.inr b))))⟩
 have c3:=o.ef;have c4:q.r≠bo:=λd=>x (d▸f.sub _ (.inr (.inl rfl)));refine dw ⟨_,ae (o.keep.get v w) rfl,mapRange Pa a8.map λN b0 t s6=>?_⟩;obtain⟨j1,j2,j3,jd,j5,ja,jn,jc,G0,L0,j4,O,Q,j8⟩:=o;have b1:SJ w9 bo q.D S Pr (N,λP=>P=w1.heap.size\/P=q.r) [] N:=by
  refine⟨j1.af t,aj.refl _,λP b=>by rcases b with rfl|rfl<;>omega,λP b=>by rcases b with rfl|rfl<;>omega,oM,ja,jn,jc,G0,L0,t.get j4 id,O.af t,λP b=>⟨(Q P b).1,λd=>?_⟩,j8⟩;rcases d with rfl|rfl
  ·have:=O.aE _ b;omega
  ·have:=(Q _ b).1;omega
 refine⟨λT g=>∃pre left c k,T=left.length/\dG g w1.heap.size q.r CS q.l left/\fh (Rh w9 q.D) left c/\qi (AN w9 q.D S) pre k/\(k++c.map (·.2)).Perm S.l/\SJ w9 bo q.D S Pr (g,λP=>P=w1.heap.size\/P=q.r) pre g/\R g,
  ⟨_,[],q.l,q.L,[],rfl,b0,f.rel,trivial,by simpa using f.TX,b1,y _ _ a7 (ai.keep t)⟩,?_⟩
 rintro T _ c5 ⟨pre,left,c,k,rfl,hr,U,C,E,V,W⟩;refine qq hr (λh0=>.inl ⟨rfl,?_⟩) (λc6 a4 l1 l2 H a6 a9 b2 u c7=>.inr ⟨_,_,rfl,?_⟩)
 ·subst h0
  obtain rfl:c=[]:=by
   have:=U.length;simp at this;exact QW this.symm
  exact Ok.mk ⟨W,_,pre,V,k,C,by simpa using E⟩
 subst a6;obtain⟨X,e,Y,rfl,⟨h,i,j,rfl,Z,a0⟩,b3⟩:=U.VA;have a1:e∈S.l:=E.mem_iff.1 sM;have a2:((k++[e])++(X++Y).map (·.2)).Perm S.l:=by
  refine List.Perm.trans ?_ E;simp only[Q3,QY,XQ,List.singleton_append];exact List.Perm.append_left _ List.perm_middle.symm
 have b4:pre.length<S.l.length:=by
  have I:=a2.length_eq;have w:=C.length;simp at I;omega
 have b5:SJ w9 bo q.D S Pr (H,λP=>P=w1.heap.size\/P=q.r) pre H:=by
  obtain⟨I,w,h3,hd,h5,h,i,j,G,r,h4,h6,h7,h8⟩:=V;exact⟨I.new u λP b=>.inr oM,aj.refl _,h3,λP b=>by have:=hd P b;omega,oM,h,i,j,G,r,u.get h4 (λd=>(h3 _ (.inl rfl)).2.2 d.symm),h6.keep u λP b d=>(h7 P b).2 (.inl d),h7,h8⟩
 have b6:=y _ _ W (u.mono λP _ b=>(⟨oM,oM⟩:tr w9 P));refine ub b2 ⟨_,_,_,_,_,_,_,_,_,_,_,_,_,rfl,PA.mk λc8 J c9 b7=>aC (bf e h i j) b7 rfl λa5 K d0 b8=>ay (bf e h i j) b8 ⟨_,rfl,(hy _ pre _ a5 ((b5.af (J.new K λP b=>.inr oM)).re) ?_ ?_ ⟨b4,e,h,i,j,rfl,Z,a0,a1⟩).mono ?_⟩⟩
 ·exact y _ _ b6 (ai.keep (J.new K λP b=>.inr oM))
 ·exact λφ L=>L e.origin e.seq e.aA h i j e.bk e.agg e.field e.op e.arg e.key
 ·rintro _ z ⟨rfl,m,b9⟩
  have c0:ai H a5:=J.new K λP b=>.inr oM;refine al.ff rfl ⟨_,?_,pre++[_],l1++l2,X++Y,k++[e],rfl,(a9.af c0).keep m.own (λM=>M (.inl rfl)) (λM=>M (.inr rfl)),b3,C.snoc ⟨h,i,j,rfl,Z,a0,a1⟩,a2,m.re,b9⟩;simp
def AO(d:cF w p F S)(hl:S.l.length<=20000000)(hg:enters XG a=true)(hp:∀c j y M D w1,ai w w1->Row aM 8 w1 D j y c.aJ->c.Ok->c∈S.l->ZH a (o++ #[jJ c j y M]++a1) w1 (Ok λz C=>z= .bool (Pr c)/\ai w1 C)):
  ZH 80 #[XP p,.func (.func a) o a1] w (Ok (vh iC 55 w (S.l.filter Pr))):=by
 have fQ:=d;obtain⟨W,q,d⟩:=d;refine tR (PA.mk λk k3 s3 g3=>PA.mk λN k4 s4 g4=>?_);have b5:=k3.then k4;have c8:=d.af b5;refine⟨p,0,rfl,_,ae c8.at' rfl,PC.ok (φ:=λz C=>z= .func (.func 205) #[] #[XP N.heap.size]/\(∃c c9,C.heap[N.heap.size]? =some (.cells #[.map (some q.r)] c c9))/\ai N C/\C.heap.size=N.heap.size+1)
  (dL (PA.mk λw5 E s5 g5=>Ok.mk ⟨rfl,⟨_,_,g5⟩,E,s5⟩)) ?_⟩
 rintro _ w9 ⟨rfl,d0,X,s9⟩;have Y:=b5.then X;have b6:=d.af Y;have hw:=d.aE;have b7:=aB d.at';have d1:=X.get (k4.get g3 id) id;have d2:=X.get g4 id;have b8:¬F k.heap.size:=λZ=>by have:=hw _ Z;omega
 have a0:k.heap.size<w9.heap.size:=oM
 refine⟨_,rfl,205,_,rfl,kR,World×(XM),(w9,no),SJ w9 k.heap.size q.D S Pr,λ_ _ _=>False,
  λpre vs=>pre.length<S.l.length/\∃c,AN w9 q.D S vs c,λg=>∃e,qi (AN w9 q.D S) g e/\e.Perm S.l,?_,λs pre A B l h=>l.fB a0 h,λ_ _ _ _ d _=>d,?_,?_,?_,trivial⟩
 ·intro w6 k6 s6
  exact⟨ai.keep k6,ai.keep k6,λb P=>P.elim,λb P=>P.elim,oM,none,0,0,λ_=>False,[],k6.get d2 id,aV.nil _,λb P=>P.elim,trivial,Qj _⟩
 ·rintro s pre A l f9 t1 t2 t3 r tn t t4 t5 t6 t7 t8 t9 ⟨g0,c,j,y,M,he,hr,O,a2⟩
  simp only[aF,List.cons.injEq,Value.agg.injEq,Array.mk.injEq,Value.int.injEq,XX,and_true,true_and]at he;obtain⟨rfl,rfl,rfl,⟨rfl,rfl,rfl⟩,rfl,rfl,rfl,rfl,rfl,rfl⟩:=he;refine PA.mk λg1 d3 g2 d4=>aC (bf c r tn t) d4 rfl λd5 d6 g6 d7=>?_;have k2:ai A d5:=d3.new d6 λb P=>.inr oM;refine⟨ai.keep k2,λb9 h=>?_⟩;have H:=(l.af k2).fB a0 h;have c0:=h.1.get d7 oM;have g7:=h.2;have c1:∀b,q.D b->b<w9.heap.size/\b≠k.heap.size:=λb P=>⟨b6.aE b (d.sub b (.inr (.inr (.inr P)))),λc=>b8 (c▸d.sub b (.inr (.inr (.inr P))))⟩
  have c2:=hr.keep H.keep λb P=>(c1 b P).2;have d8:ai w b9:=Y.new H.keep λb P=>.inr oM;refine⟨_,ae (H.keep.get d1 oM) rfl,ay (bf c r tn t) c0 ⟨a,o,a1,rfl,hg,PC.ok (hp c r tn t _ b9 d8 c2 O a2) ?_⟩⟩;rintro _ d9 ⟨rfl,a3⟩;refine⟨_,rfl,al.mk (λh=>λc3 e0=>?_) (λZ=>?_)⟩
  ·have e1:ai d9 c3:=e0.keep
   have Q:=a3.then e1;have e2:=H.af Q;obtain⟨I,R,J,u,h5,T,ln,lc,G,e,m,i,f,n,h9⟩:=e2;have e3:=c2.af Q;have b7:=n.length;refine⟨no,id,_,_,_,ae m rfl,ay (bf c r tn t) (Q.get c0 id) (PC.ok (lL e3 λb P=>by have:=(c1 b P).1;omega) ?_)⟩;rintro _ g8 ⟨e4,cn,cc,G2,rfl,e5,U,a4⟩;have g9:=a4.size;refine⟨_,_,_,_,_,_,_,_,_,_,_,_,rfl,ai.keep a4,PA.mk λh0 a5 h1 e6=>⟨ai.keep a5,?_⟩⟩;have kk:=a4.then a5;refine fk (c:=iC) (i.af kk) E_ e6 (D:=G2) (x:=c) ⟨e4,cn,cc,rfl,e5.af a5,O⟩ (λb P=>⟨by have:=U b P;omega,λc=>by have:=U b P;have:=i.aE _ (i.self _ c);omega⟩) ?_ ?_ λa' K h2 F' e7 a6 c4=>⟨_,_,_,rfl,?_⟩
   ·have:=List.length_filter_le Pr e;unfold aS;omega
   ·have:=List.length_filter_le Pr e;unfold maxLen;omega
   have V:=i.self;have a7:¬aI T=some k.heap.size:=λc=>by have:=(f _ (V _ c)).1;omega
   have e8:=a6.get (kk.get m id) a7;refine PS.mk e8 sM λe9 c5 h3 f0=>?_;have E:aj (λb=>aI T=some b\/b=k.heap.size) c3 e9:=((ai.keep kk).then (a6.mono λb _ P=>.inl P)).then (c5.mono λb _ P=>.inr P);have h4:=a6.size;refine⟨(ai.keep Q).trans E (λ_ _ d=>d) λb _ P=>?_,?_⟩
   ·rcases P with P|rfl
    ·have:=(f _ (V _ P)).1;exact⟨oM,oM⟩
    ·exact⟨oM,oM⟩
   refine⟨I.new E ?_,R.trans E (λ_ _ d=>d) λb _ P v=>?_,J,λb P=>by have:=u b P;omega,oM,a',ln+1,K,F',e++[c],?_,?_,?_,n.snoc ⟨r,tn,t,rfl,hr,O,a2⟩,?_⟩
   ·rintro b (P|P)
    ·exact .inr (by have:=(f _ (V _ P)).1;omega)
    ·exact .inl P
   ·rcases P with P|P
    ·exact(f _ (V _ P)).2 v
    ·exact(J b v).2.2 P
   ·rw[f0];rfl
   ·have a8:(e++[c]).filter Pr=e.filter Pr++[c]:=by rw[List.filter_append];simp[h]
    rw[a8];refine e7.keep c5 λb P c=>?_;rcases c4 b P with P|P|P
    ·have:=(f b P).1;omega
    ·have:=U b P;omega
    ·omega
   ·intro b P
    rcases c4 b P with P|P|P
    ·exact f b P
    ·have:=U b P;exact⟨oM,λv=>by have:=u b v;omega⟩
    ·exact⟨oM,λv=>by have:=u b v;omega⟩
   ·simp;omega
  ·refine⟨ai.keep a3,?_⟩
   obtain⟨I,R,J,u,h5,T,ln,lc,G,e,m,i,f,n,h9⟩:=H.af a3;have b7:=n.length;refine⟨I,R,J,u,h5,T,ln,lc,G,e++[c],m,?_,f,n.snoc ⟨r,tn,t,rfl,hr,O,a2⟩,by simp;omega⟩;have a8:(e++[c]).filter Pr=e.filter Pr:=by rw[List.filter_append];simp[Z]
   rw[a8];exact i
 ·intro f1 Rx hR _ h6 hy w6 f2 f3
  refine Calls.mono (Pe (R:=f1) a0 W b6 d0 oM b8 hR (λs pre vs A l f4 h hN=>(hy s pre vs A l f4 h hN).mono ?_) f2 f3) ?_
  ·rintro b A' (d|⟨-,x,d,-⟩)
   ·exact d
   ·exact d.elim
  ·rintro _ A' ⟨z,rfl,f5,s,g,a9,hT⟩
   exact⟨⟨z,rfl⟩,.inl ⟨f5,s,g,a9,hT⟩⟩
 ·rintro s g A l ⟨L',f6,f7⟩ hm
  obtain⟨I,R,J,u,h5,j,y,M,G,e,m,i,f,n,h9⟩:=l;obtain rfl:=qi.unique n f6;have b0:(e.filter Pr).Perm (S.l.filter Pr):=f7.filter _;refine⟨_,_,_,ae m rfl,PC.ok (HI i (by rw[b0.length_eq];exact Xx (List.length_filter_le ..) hl)) ?_⟩;rintro _ h7 ⟨rfl,l',L,b1,b2,b3⟩;have b4:=i.self;have a7:¬aI j=some k.heap.size:=λc=>by have:=(f _ (b4 _ c)).1;omega
  have f8:¬aI j=some w9.heap.size:=λc=>by have:=(f _ (b4 _ c)).1;omega
  refine⟨rfl,_,_,_,ae (b3.get m a7) rfl,b3.get hm f8,λi0 ⟨c6,i1⟩=>Ok.mk ?_⟩;have c7:=List.filter_sublist (p:=Pr) (l:=S.l);obtain rfl:l'=S.l.filter Pr:=Ka b1 (W.Nl.sublist c7) (L.trans b0) (((L.trans b0).map aX).nodup_iff.2 (W.ids.sublist (c7.map _)));refine⟨j,y,M,G,rfl,b2.keep c6 λb P c=>by have:=(f b P).1;omega,?_,λb P=>by have:=(f b P).1;omega⟩;exact((Y.new I λb P=>.inr oM).new b3 λb P=>.inr (by have:=(f b (b4 b P)).1;omega)).new c6 λb P=>.inr oM
end
end Go.Proofs.YtblabbpipmodgaaGreatDoor
namespace Go.au
variable{q:List Int}{a:Nat}{f:XM}{d:XU}{i:Type}{g:TypeId}{b:World}
def Row.rX{D:XM}(P:Row aM 8 b D d a q):Ints b d a q:=by
 have n:=P.len;refine⟨n,P.ef,λh o=>?_,λi h c=>?_⟩
 ·obtain⟨i,c,rfl⟩:=List.getElem_of_mem o
  obtain⟨j,k,p,g,e,l,m⟩:=P.lq (i:=i) oM;rw[Qq c]at e;rw[XJ e];exact l
 ·have s:=(Qv.1 c).1
  obtain⟨j,k,t,g,r,u,v,w⟩:=P.el i h c;obtain⟨x,y,p,f,e,l,m⟩:=P.lq (i:=i) oM;rw[c]at e;rw[g]at f;cases f
  exact⟨j,k,g,r,by rw[m,XJ e]⟩
def Own.take{c:World}{d:TypeId}{k:Nat}{e:XU}{a f m:Nat}{cs:List Value}(g:Own c d k e a f cs)(h:m<=a):Own c d k e m f (cs.take (m*k)):=by
 have i:=g.length;have j:m*k<=a*k:=Q0 _ h;refine⟨⟨by rw[Qy,i];omega,?_⟩⟩;rcases g.row.2 with⟨P,rfl⟩|⟨l,n,b,P,o,p,t,q,r,s⟩
 ·obtain rfl:m=0:=oM
  exact .inl ⟨P,rfl⟩
 ·simp only[XX]at P
  refine .inr ⟨l,n,b,by rw[P.1,P.2.2],o,p,oM,q,r,?_⟩;rw[<-s,List.take_take,X2 j]
def aV.take{c:jK i}{e P m:Nat}{h:List i}(a:aV c g f b d e P h)(j:m<=e):aV c g f b d m P (h.take m):=by
 obtain⟨cs,D,k,l,n⟩:=a.body;exact⟨⟨_,D,k.take j,l.take m,n⟩,a.self,a.aE⟩
end Go.au
namespace Go.Proofs.YtblabbpipmodgaaGreatDoor
section
open Go.au
variable{e:Int}{a c:Nat}{d:XU}
section
variable {w w' w1:World} {p:Nat} {F T:XM} {S:ar} {q:Pc}
def qk(d:cF w p F S)(P:S.l.length<=20000000):ZH 41 #[XP p] w (Ok (vh iC 55 w S.l)):=by
 refine vo (PC.ok (AO d P (Pr:=λ_=>true) kR λh a b c D w1 i j k l=>?_) ?_)
 ·exact sq (PA.mk λm e n o=>Ok.mk ⟨rfl,e⟩)
 ·rintro _ q ⟨a,b,c,G,rfl,P,f,g⟩
  rw[List.filter_eq_self.2 sM]at P;exact⟨_,_,_,rfl,Ok.mk ⟨a,b,c,G,rfl,P,f,g⟩⟩
def wX(r:cF w p F S)(s:S.l.length<=20000000){f:List Int}{D:XM}(t:Row aM 8 w D d a f):
  ZH 50 #[XP p,.slice d a c,QH e] w (Ok (vh iC 55 w (S.missing f e))):=by
 refine oZ (PA.mk λw1 i E u=>PC.ok (AO (r.af i) s (Pr:=λP=>decide (max 0 (fu f P.origin)<P.seq)) kR λP l g m H I v J K L=>?_) ?_)
 ·refine mZ (PA.mk λn o M h=>λx y=>⟨no,id,?_⟩)
  have j:ai n x:=y.keep;have h:=j.get h id;have q:=v.then (o.then j);refine⟨_,ae h rfl,_,_,_,ae (q.get u id) rfl,_,ae h rfl,PC.ok (mN (t.rX.af (i.then q))) ?_⟩;rintro _ _ ⟨rfl,rfl⟩;refine⟨_,rfl,aj.refl _,Ok.mk ⟨?_,o.then j⟩⟩
  congr 1
  rw[decide_eq_decide];split<;>omega
 ·rintro _ n ⟨l,g,m,G,rfl,b,z,A⟩
  have N:=b.len dC;have O:=b.mL;have k:(if e>0 then e else 0)=max 0 e:=by split<;>omega
  refine⟨_,_,_,rfl,?_⟩;refine⟨by rw[k];split<;>omega,by rw[k];split<;>omega,Ok.mk ⟨l,_,m,G,rfl,?_,i.then z,λB C=>by have:=A B C;omega⟩⟩;rw[k];have:=b.take (m:=Int.toNat (if max 0 e<(g:Int)then max 0 e else(g:Int))) (by split<;>omega);unfold ar.missing;have P:(List.filter (λP=>decide (max 0 (fu f P.origin)<P.seq)) S.l).take (Int.toNat (if max 0 e<(g:Int)then max 0 e else(g:Int)))=(List.filter (λP=>decide (max 0 (fu f P.origin)<P.seq)) S.l).take (max 0 e).toNat:=by
   split
   ·rfl
   ·rw[Qz oM,Qz oM]
  rw[<-P];exact this
def xd{a:Type}(p:a->Bool):∀P:List a,P.find? p=(P.filter p).head?
 |[]=>rfl
 |x::P=>by
  rw[List.find?_cons,List.filter_cons]
  cases p x
  ·exact xd p P
  ·rfl
def ML(C:cF w p F S)(q:S.l.length<=20000000){key:Int}:
  ZH 83 #[XP p,QH key] w (Ok λE w'=>∃r s H G,E= .tuple #[jJ ((S.keyed key).getD rf) r s H,.bool (S.keyed key).isSome]/\Row aM 8 w' G r s ((S.keyed key).getD rf).aJ/\(∀P,G P->w.heap.size<=P/\P<w'.heap.size)/\ai w w'):=by
 refine sr (PA.mk λw1 m Z t=>PA.mk λw2 j s2 I=>PC.ok (AO ((C.af m).af j) q (Pr:=λa=>key !=0&&a.key==key) kR λa J K L D' M N hr u hm=>?_) ?_)
 ·refine pg (PA.mk λv d x f=>?_)
  have y:=(j.then N).then d;refine⟨_,ae (y.get t id) rfl,al.dQ (λO=>⟨_,ae f rfl,_,ae (y.get t id) rfl,Ok.mk ⟨?_,d⟩⟩) (λu=>Ok.mk ⟨?_,d⟩)⟩
  ·rw[show(key !=0)=true by simpa using O];rfl
  ·rw[u];rfl
 ·rintro _ M ⟨J,K,L,G,rfl,b,n,z⟩
  have k:=b.len dC;have A:=n.get I id;have B:S.keyed key=(S.l.filter λa=>key !=0&&a.key==key).head? :=xd _ _;refine⟨_,_,_,rfl,al.dU (λQ=>?_) (λQ=>?_)⟩
  ·have:(S.l.filter λa=>key !=0&&a.key==key)=[]:=QW oM
   rw[B,this];refine aC (bf rf none 0 0) A rfl λv d x f=>ay (bf rf none 0 0) f (Ok.mk ⟨none,0,0,λ_=>False,rfl,Row.nil _ _,λP c=>c.elim,((m.then j).then n).new d λP c=>.inr oM⟩)
  ·cases l:S.l.filter λa=>key !=0&&a.key==key with
   |nil=>rw[l]at k;simp at k;omega
   |cons e R=>
    rw[l]at b k;have a0:(e::R).length<=20000000:=by rw[<-l];exact Xx (List.length_filter_le ..) q
    have T:=b.row (bytes:=96) dC ba;obtain⟨P,U,es,V,c,a1,W,g,h,i,rfl,X,a3⟩:=T.el 0 e rfl
    with_reducible (conv=>whnf)
    rw[B,l];refine⟨P,U,V,oM,by simp at k;omega,?_⟩;refine bW (es:=aF e g h i) (k:=10) (bf e g h i) rfl (λY o=>?_) (aC (bf e g h i) A rfl λv d x f=>ay (bf e g h i) f (Ok.mk ⟨g,h,i,G,rfl,?_,?_,?_⟩))
    ·have:=W Y o
     simpa using this
    ·exact X.keep d λP c a=>by have:=z P c;omega
    ·intro P c;have:=z P c;have:=b.aE P c;omega
    ·exact((m.then j).then n).new d λP c=>.inr oM
end
end
section
open Go.au
variable{e u:Int}{q:List Int}{a c:Nat}{d:XU}{i:Type}
def Tj(b:a+c<4611686018427387904):XH .i64 (kv .u64 (XH .u64 (XH .i64 ((a:Int)+(c:Int)))) 1)=(((a+c)/2:Nat):Int):=by
 rw[wrap_i64 (x:=(a:Int)+c) bb];have P:XH .u64 ((a:Int)+(c:Int))=((a+c:Nat):Int):=by
  unfold XH;simp[IntKind.signed,IntKind.bits];omega
 rw[P,show(1:Int)=((1:Nat):Int)from rfl,Lm dC,wrap_i64 bb]
def posOf{P:Type}(a:P->Bool)(b:List P):Nat:=(b.takeWhile a).length
def Fy(P:i->Bool)(a:List i):posOf P a<=a.length:=(List.takeWhile_sublist P).length_le
def yB{d:Type}{p:d->Bool}:∀{l:List d} {i:Nat},i<=l.length->(∀P x,P<i->l[P]? =some x->p x=true)->(∀x,l[i]? =some x->p x=false)->posOf p l=i
 |[],i,a,_,_=>by simp at a;subst a;rfl
 |x::l,0,_,_,f=>by
  have:=f x rfl;simp[posOf,this]
 |x::l,i+1,a,e,g=>by
  have h:=e 0 x oM rfl;have:=yB (p:=p) (l:=l) (i:=i) (by simpa using a) (λP b j c=>e (P+1) b oM (by simpa using c)) (λb c=>g b (by simpa using c));unfold posOf at this⊢;rw[List.takeWhile_cons,h];simp[this]
section
variable {w w':World} {D:XM}
def RX{w:World}:ZH 312 #[QH e] w (Ok λP w'=>P= .bool false/\w=w'):=rN (Ok.mk ⟨sM,rfl⟩)
def Ni{w:World}:ZH 311 #[QH e,QH u] w (Ok λP w'=>P= .bool (decide (e<u))/\w=w'):=by
 refine yC (PC.ok isNaN ?_);rintro _ _ ⟨rfl,rfl⟩;exact⟨_,rfl,al.ff rfl (Ok.mk ⟨rfl,rfl⟩)⟩
abbrev vb(P:List Int):Prop:=P.Pairwise (·<·)
def rO(t:Row aM 8 w D d a q)(F:vb q):
  ZH 279 #[.slice d a c,QH e] w (Ok λH w'=>H= .tuple #[QH (posOf (λP=>decide (P<e)) q:Nat),.bool (decide (e∈q))]/\w=w'):=by
 have N:=t.len;have I:=t.ef;unfold aS at I;have z:∀{i k:Nat} {P m:Int},q[i]? =some P->q[k]? =some m->i<=k->P<=m:=λ{i k P m} g n O=>by
  obtain⟨o,rfl⟩:=Qv.1 g;obtain⟨p,rfl⟩:=Qv.1 n;rcases Nat.lt_or_ge i k with h|h
  ·exact Int.le_of_lt (List.pairwise_iff_getElem.1 F i k o p h)
  ·obtain rfl:i=k:=oM
   exact Int.le_refl _
 refine iM ⟨λE i k w'=>∃b j:Nat,i=b/\k=j/\E=j-b/\b<=j/\j<=a/\(∀f P,f<b->q[f]? =some P->P<e)/\(∀f P,j<=f->q[f]? =some P->e<=P)/\w=w',
  ⟨_,0,a,rfl,rfl,rfl,oM,oM,λf P l=>oM,λf P l g=>by have:=(Qv.1 g).1;omega,rfl⟩,?_⟩
 rintro E _ _ _ _ ⟨b,j,rfl,rfl,rfl,Q,J,o,p,rfl⟩;refine al.dec (λR=>?_) (λS=>?_)
 ·rw[Tj oM]
  obtain⟨u,v,P,x,g,-,y⟩:=t.lq (i:=(b+j)/2) oM;refine⟨u,v,x,oM,oM,P,by rw[Qx];exact y,PC.ok Ni ?_⟩;rintro _ _ ⟨rfl,rfl⟩;refine⟨_,rfl,al.dec (λK=>⟨_,?_,(b+j)/2+1,j,an oM,rfl,rfl,oM,J,λf m l n=>?_,p,rfl⟩) (λK=>⟨_,?_,b,(b+j)/2,rfl,rfl,rfl,oM,oM,o,λf m l n=>?_,rfl⟩)⟩
  ·omega
  ·have:=z n g oM;omega
  ·omega
  ·have:=z g n l;omega
 ·obtain rfl:b=j:=oM
  have L:posOf (λP=>decide (P<e)) q=b:=yB oM (λf P l g=>by simpa using o f P l g) (λP g=>by have:=p b P (Q4 _) g;simp;omega);rw[L];have A:e∈q↔q[b]? =some e:=by
   constructor
   ·intro r
    obtain⟨f,l,rfl⟩:=List.getElem_of_mem r;have s:q[f]? =some q[f]:=Qq l;rcases Nat.lt_or_ge f b with h|h
    ·have:=o f _ h s;omega
    ·have B:b<q.length:=oM
     have T:=p b _ (Q4 _) (Qq B);have U:=z (Qq B) s h;rw[Qq B];congr 1;omega
   ·exact QZ
  refine al.dec (λM=>?_) (λM=>?_)
  ·obtain⟨u,v,P,x,g,-,y⟩:=t.lq (i:=b) oM
   refine⟨u,v,x,oM,oM,P,y,al.dU (λC=>Ok.mk ⟨?_,rfl⟩) (λC=>⟨u,v,x,oM,oM,P,y,PC.ok RX ?_⟩)⟩
   ·rw[Zy (A.2 (C▸g))]
   ·rintro _ _ ⟨rfl,rfl⟩
    refine⟨_,rfl,al.ff rfl (Ok.mk ⟨?_,rfl⟩)⟩;rw[Xv];intro r;have:=A.1 r;rw[g]at this;exact C (XJ this)
  ·refine Ok.mk ⟨?_,rfl⟩
   rw[Xv];intro r;have:=(Qv.1 (A.1 r)).1;omega
end
def Fz{a:Int}:∀{P:List Int},vb P->a∉P->oO a P=P.take (posOf (λy=>decide (y<a)) P)++a::P.drop (posOf (λy=>decide (y<a)) P)
 |[],_,_=>rfl
 |y::P,d,b=>by
  obtain⟨f,e⟩:=List.pairwise_cons.1 d;simp only[Q2,not_or]at b;unfold oO posOf
  by_cases c:a<y
  ·rw[Zx c,List.takeWhile_cons,Xv oM];rfl
  ·rw[Zq c,Zq b.1,List.takeWhile_cons,Zy (show y<a by omega),Fz e b.2];rfl
def th{b:Int}:∀{P:List Int},b∈P->vb P->oO b P=P
 |y::P,a,c=>by
  obtain⟨d,e⟩:=List.pairwise_cons.1 c;unfold oO;rcases Q2.1 a with rfl|a
  ·rw[Zq oM,Zx rfl]
  ·have:=d b a
   rw[Zq oM,Zq oM,th a e]
def FA{b P:Int}:∀{a:List Int},P∈oO b a↔P=b\/P∈a
 |[]=>by simp[oO]
 |y::a=>by
  unfold oO;split
  ·simp
  ·split
   ·rename_i h;subst h;simp
   ·simp only[Q2,FA]
    constructor
    ·rintro(h|h|h)<;>simp[h]
    ·rintro(h|h|h)<;>simp[h]
def BV{e:Int}:∀{a:List Int},vb a->vb (oO e a)
 |[],_=>List.pairwise_singleton ..
 |y::a,b=>by
  obtain⟨d,f⟩:=List.pairwise_cons.1 b;unfold oO;split
  ·rename_i g
   exact List.pairwise_cons.2 ⟨λc P=>by
    rcases Q2.1 P with rfl|P
    ·exact g
    ·have:=d c P;omega,b⟩
  ·split
   ·exact b
   ·refine List.pairwise_cons.2 ⟨λc P=>?_,BV f⟩
    rcases FA.1 P with rfl|P
    ·omega
    ·exact d c P
def Kl{a:Int}:∀{P:List Int},vb P->a∈P->(P.filter λy=>y !=a)=P.eraseIdx (posOf (λy=>decide (y<a)) P)/\posOf (λy=>decide (y<a)) P<P.length
 |y::P,f,c=>by
  obtain⟨e,g⟩:=List.pairwise_cons.1 f;rcases Q2.1 c with rfl|c
  ·have d:posOf (λy=>decide (y<a)) (a::P)=0:=by simp[posOf]
   rw[d];refine⟨?_,sM⟩;rw[List.filter_cons_of_neg sM,List.eraseIdx_zero,List.tail_cons];refine List.filter_eq_self.2 λb h=>?_;have:=e b h;simp;omega
  ·have i:=e a c
   obtain⟨j,k⟩:=Kl g c;have d:posOf (λb=>decide (b<a)) (y::P)=posOf (λb=>decide (b<a)) P+1:=by simp[posOf,i]
   rw[d,List.filter_cons_of_pos bc,List.eraseIdx_cons_succ,j];exact⟨rfl,by simp;exact k⟩
def FB(P:e∉q):(q.filter λa=>a !=e)=q:=List.filter_eq_self.2 λc b=>by
 simp only[bne_iff_ne,ne_eq];rintro rfl;exact P b
end
end Go.Proofs.YtblabbpipmodgaaGreatDoor
namespace Go.au
open Go
variable{z:XR}{a c:Nat}{f:XM}{V X:Operand}{d t:XU}{i:Type}{g n:TypeId}{m r:XN}{b:World}{x:XT}
def Ig{l:Program}{j bytes:Nat}{f:i->List Value}{o:i->Prop}{hl hone}(s:jx l g n j bytes)(H:0<bytes){k:List i}{D:XM}(h:Row (flat j f o hl hone) bytes b D d a k)(t:∀P,D P->P<b.heap.size)(u:∀v w,vh (flat j f o hl hone) n b k v w->z (.returned v) w):
  aG l (do eqGuard .eql g V X (.slice d a c) (.slice none 0 0);binOp .eql g (.slice d a c) (.slice none 0 0)) b (λI p=>∃(x:Bool),I= .bool x/\al x (z (.returned (.slice none 0 0)) p) (PA p (.cells #[] n) λJ=>
   aG l (Builtin.append_ #[g,g] g #[.slice (XL p.heap.size) 0 0,.slice d a c]) J (λK L=>∃(y:XU) (A:Nat) (B:Nat),K= .slice y A B/\z (.returned (.slice y A B)) L) m)) r:=by
 have C:=h.len;have e:=h.ef;refine jQ s.under ⟨_,rfl,al.mk (λq=>?_) (λq=>PA.mk λM E a0 N=>?_)⟩
 ·have:k=[]:=by
   cases d with
   |none=>
    cases k with
    |nil=>rfl
    |cons V a1=>obtain⟨P,O,es,Q,_⟩:=h.el 0 V rfl;cases Q
   |some R=>cases q
  subst this;exact u _ _ ⟨none,0,0,λ_=>False,rfl,aV.nil b,aj.refl _,λ_ h=>h.elim⟩
 ·cases d with
  |none=>cases q
  |some R=>
   have S:aV (flat j f o hl hone) n (·=b.heap.size) M (XL b.heap.size) 0 0 []:=
    ⟨⟨[],λ_=>False,Own.yz (cur:= #[]) N sM (Qj _),rfl,λ_ h=>h.elim⟩,λP e=>by simpa[aI]using e.symm,λP e=>oM⟩
   have T:a<=maxLen:=by
    unfold aS at e;unfold maxLen;have:a*1<=a*bytes:=Nat.mul_le_mul_left _ H;omega
   refine kj S s (D:=D) (h.af E) (λP e=>⟨by have:=t P e;omega,by have:=t P e;simp only[aI];intro n;cases n;omega⟩) (by rw[ZQ,Xz,<-C];exact e) (by rw[ZQ,Xz,<-C];exact T) λF U w2 F' W Y _ Z=>?_;refine⟨_,_,_,rfl,u _ _ ⟨F,_,U,λP=>aI F=some P,rfl,by have h:=W.alone;rw[List.nil_append]at h;exact h,E.new Y λP e=>.inr ?_,λP e=>?_⟩⟩
   ·simp only[aI,Q1]at e;omega
   ·rcases Z P e with h|h<;>omega
structure Bx (α:Type) where
 x:α
 a:XU
 n:Nat
 c:Nat
structure fO (α β:Type) where
 k:Nat
 ci:jK β
 ib:Nat
 inner:α->List β
 hd:α->XU->Nat->Nat->List Value
 ok:α->Prop
 hl:∀x a n c,(hd x a n c).length=k
 h1:∀x a n c,∀u∈hd x a n c,u.oneCell'=true
 o:Nat
 ho:o<k
 fQ:∀x a n c a' n' c',(hd x a n c).set o (.slice a' n' c')=hd x a' n' c'
section
variable {α β:Type} (N:fO α β)
def fO.kO:jK (Bx α):=flat N.k (λP=>N.hd P.x P.a P.n P.c) (λ_=>True) (λP=>N.hl ..) (λP=>N.h1 P.x P.a P.n P.c)
def fO.Ls:jK α where
 k:=N.k
 rep:=λi D d cs=>∃P a b,cs=N.hd d P a b/\Row N.ci N.ib i D P a (N.inner d)/\N.ok d
 keep:=λ⟨P,a,b,c,e,f⟩ j g=>⟨P,a,b,c,e.keep j g,f⟩
 mono:=λ⟨P,a,b,c,e,f⟩ g=>⟨P,a,b,c,e.mono g,f⟩
 len:=λ⟨P,a,b,c,_,_⟩=>by rw[c];exact N.hl ..
 one:=λ⟨P,a,b,c,_,_⟩ k h=>by rw[c]at h;exact N.h1 _ _ _ _ k h
variable {N} {w w':World} {D:XM}
def fO.In(N:fO α β)(w:World)(D:XM)(P:Bx α):Prop:=Row N.ci N.ib w D P.a P.n (N.inner P.x)/\N.ok P.x
def fO.In.keep{S:XM}{P:Bx α}(a:N.In w D P)(b:aj S w w')(c:∀P,D P->¬S P):N.In w' D P:=⟨a.1.keep b c,a.2⟩
def fO.In.mono{P:Bx α}(a:N.In w D P)(b:∀P,D P->f P):N.In w f P:=⟨a.1.mono b,a.2⟩
def fO.bT:∀{a:List α} {cs:List Value},bR N.Ls w D a cs->∃P:List (Bx α),P.map (·.x)=a/\bR N.kO w D P cs/\∀b∈P,N.In w D b
 |[],_,d=>⟨[],rfl,d,sM⟩
 |x::a,_,⟨e,f,g,⟨h,i,j,k,l,m⟩,n⟩=>by
  obtain⟨P,o,p,q⟩:=fO.bT n;refine⟨⟨x,h,i,j⟩::P,by simp[o],⟨e,f,g,⟨k,trivial⟩,p⟩,λb c=>?_⟩;rcases Q2.1 c with rfl|c
  ·exact⟨l,m⟩
  ·exact q b c
def fO.OH{c:XM}:∀{P:List (Bx α)} {cs:List Value},bR N.kO w c P cs->(∀b∈P,N.In w D b)->bR N.Ls w D (P.map (·.x)) cs
 |[],_,d,_=>d
 |b::P,_,⟨e,f,g,⟨h,_⟩,i⟩,a=>⟨e,f,g,⟨b.a,b.n,b.c,h,a b (QV ..)⟩,fO.OH i λj k=>a j (QJ _ k)⟩
def fO.boxes{bytes:Nat}{c:List α}(e:Row N.Ls bytes w D d a c):∃P:List (Bx α),P.map (·.x)=c/\Row N.kO bytes w D d a P/\∀i∈P,N.In w D i:=by
 obtain⟨cs,n,o⟩:=e.bT;obtain⟨P,j,p,q⟩:=fO.bT n;have f:P.length=c.length:=by rw[<-j];simp
 have r:0<N.Ls.k:=Nat.lt_of_le_of_lt (Qj _) N.ho;refine⟨P,j,⟨by rw[f];exact e.len,e.ef,λB i g=>?_⟩,q⟩;have s:c≠[]:=by rintro rfl;rw[ZQ]at f;rw[QW f]at g;simp at g
 obtain⟨t,h,u,v,x,y⟩:=o s r;obtain⟨k,z,l⟩:=p.at g;refine⟨t,h,k,u,v,x,λm A=>?_,l⟩;have C:=N.kO.len l;have b:=z m A;rw[Qq (show m<k.length by omega)]at b⊢;rw[Nat.add_assoc];exact y _ _ b
def fO.unbox{e:List (Bx α)}(j:aV N.kO g f w d a c e)(b:∀P∈e,N.In w D P)(h:∀P,D P->P<w.heap.size/\aI d≠some P):aV N.Ls g (λP=>aI d=some P\/D P) w d a c (e.map (·.x)):=by
 obtain⟨cs,l,i,k,m⟩:=j.body;refine⟨⟨cs,D,i,fO.OH k b,λP b=>⟨.inr b,(h P b).2⟩⟩,λP b=>.inl b,λP b=>?_⟩;rcases b with b|b
 ·exact i.lt b
 ·exact(h P b).1
def fO.set{e:List (Bx α)}(n:aV N.kO g f w d a c e){h:Nat}{P:Bx α}{i k:Nat}(o:e[h]? =some P){m b:Nat}(p:d=some ⟨m,b,none⟩)(l:∀j,aV N.kO g f j d a c (e.set h ⟨P.x,t,i,k⟩)->aj (λP=>aI d=some P) w j->j.heap.size=w.heap.size->x j):PS w ⟨m,b+h*N.k+N.o,none⟩ (.slice t i k) x:=
 aV.set (x':=⟨P.x,t,i,k⟩) n o N.ho (N.fQ ..).symm p l
end
end Go.au
namespace Go.Proofs.YtblabbpipmodgaaGreatDoor
open Go.au
def jM.Ok(P:jM):Prop:=aN P.bX/\aN P.oF/\aN P.ky/\aN P.least
def mM(P:jM):List Value:=[QH P.bX,QH P.oF,QH P.ky,QH P.least]
def fL:jK jM:=flat 4 mM jM.Ok (λ_=>rfl) (λa b P=>by simp[mM]at P;rcases P with rfl|rfl|rfl|rfl<;>rfl)
def dF(P:br)(a:XU)(b c:Nat):List Value:=[QH P.kind,QH P.dO,.bool P.floor,.slice a b c]
def nY:jK br where
 k:=4
 rep:=λi D d cs=>∃P a b,cs=dF d P a b/\Row fL 32 i D P a d.bt/\aN d.kind/\aN d.dO
 keep:=λ⟨P,a,b,c,e,f⟩ j g=>⟨P,a,b,c,e.keep j g,f⟩
 mono:=λ⟨P,a,b,c,e,f⟩ g=>⟨P,a,b,c,e.mono g,f⟩
 len:=λ⟨P,a,b,c,_,_⟩=>by rw[c];rfl
 one:=λ⟨P,a,b,c,_,_⟩ k h=>by
  rw[c]at h;simp[dF]at h;rcases h with rfl|rfl|rfl|rfl<;>rfl
def jX:jK (List br) where
 k:=1
 rep:=λg D h cs=>∃P a b,cs=[.slice P a b]/\Row nY 48 g D P a h
 keep:=λ⟨P,a,b,c,d⟩ i e=>⟨P,a,b,c,d.keep i e⟩
 mono:=λ⟨P,a,b,c,d⟩ e=>⟨P,a,b,c,d.mono e⟩
 len:=λ⟨P,a,b,c,_⟩=>by rw[c];rfl
 one:=λ⟨P,a,b,c,_⟩ j f=>by rw[c]at f;simp at f;subst f;rfl
def jb.Ok(P:jb):Prop:=aN P.bk/\aN P.field/\aN P.group/\aN P.EW/\aN P.make
def mK(P:jb):List Value:=[QH P.bk,QH P.field,QH P.group,QH P.EW,QH P.make]
def ud:jK jb:=flat 5 mK jb.Ok (λ_=>rfl) (λa b P=>by simp[mK]at P;rcases P with rfl|rfl|rfl|rfl|rfl<;>rfl)
def Jh:jx XG 121 125 4 32:=⟨kR,kR,dC⟩
def NM:jx XG 126 123 4 48:=⟨kR,kR,dC⟩
def Kj:jx XG 22 130 1 24:=⟨kR,kR,dC⟩
def IX:jx XG 23 128 5 40:=⟨kR,kR,dC⟩
def Ib(P:jM):jf XG 125 (mM P)=true:=kR
def eX(P:br)(a:XU)(b c:Nat):jf XG 123 (dF P a b c)=true:=kR
def Hm(P:br)(a:XU)(b c:Nat):Py (fW XG 123) (.agg (dF P a b c).toArray)=true:=kR
def oH(P:jb):jf XG 128 (mK P)=true:=kR
def TV:br:=⟨0,0,false,[]⟩
structure bl (w:World) (D:XM) (d:aW) (ta:XU) (tn:Nat) (pa:XU) (pn:Nat):Prop where
 bk:Row jX 24 w D ta tn d.types
 A_:Row ud 40 w D pa pn d.projs
variable{o:Array Value}{y:FuncId}{Y e u:Int}{f7:List jM}{a c:Nat}{b4:br}
section
variable {w w':World} {D D' S:XM} {d:aW} {ta pa:XU} {tn tc pn pc:Nat}
def bl.keep(P:bl w D d ta tn pa pn)(a:aj S w w')(b:∀c,D c->¬S c):bl w' D d ta tn pa pn:=⟨P.bk.keep a b,P.A_.keep a b⟩
def bl.af(P:bl w D d ta tn pa pn)(a:ai w w'):bl w' D d ta tn pa pn:=P.keep a λ_ _ P=>P
def bl.mono(P:bl w D d ta tn pa pn)(a:∀b,D b->D' b):bl w D' d ta tn pa pn:=⟨P.bk.mono a,P.A_.mono a⟩
structure eP (w:World):Prop where
 kinds:∀i,i<6->w.cell? ⟨1,i,none⟩=some (QH (pL i))
 TW:∀i,i<5->w.cell? ⟨0,i,none⟩=some (QH (([0,2,14,6,6]:List Int).getD i 0))
 lt:1<w.heap.size/\0<w.heap.size
def eP.af(P:eP w)(b:ai w w'):eP w':=
 ⟨λa c=>(b.cell (a:=⟨1,a,none⟩) P.lt.1 id).trans (P.kinds a c),λa c=>(b.cell (a:=⟨0,a,none⟩) P.lt.2 id).trans (P.TW a c),
  Qk P.lt.1 b.size,Qk P.lt.2 b.size⟩
def bF:within e u Y=true↔u<=e/\e<=Y:=by simp[within]
def cm:ZH 125 #[QH e,QH u,QH Y] w (Ok λP w'=>P= .bool (within e u Y)/\w=w'):=by
 refine xF (al.dec (λa=>Ok.mk ⟨?_,rfl⟩) (λa=>Ok.mk ⟨?_,rfl⟩))
 ·simp[within];omega
 ·simp[within];omega
def rK{d:XU}(h:Row fL 32 w D d a f7)(f:∀P,D P->P<w.heap.size):
  ZH 130 #[.slice d a c] w (Ok (vh fL 125 w f7)):=by
 have v:=h.len;have b:=h.ef;refine ic (jQ Jh.under ⟨_,rfl,al.mk (λe=>?_) (λe=>PA.mk λj g x k=>?_)⟩)
 ·have:f7=[]:=by
   cases d with
   |none=>
    cases f7 with
    |nil=>rfl
    |cons l y=>obtain⟨P,m,z,n,_⟩:=h.el 0 l rfl;cases n
   |some o=>cases e
  subst this;exact Ok.mk ⟨none,0,0,λ_=>False,rfl,aV.nil w,aj.refl _,λ_ h=>h.elim⟩
 ·cases d with
  |none=>cases e
  |some o=>
   have p:aV fL 125 (·=w.heap.size) j (XL w.heap.size) 0 0 []:=
    ⟨⟨[],λ_=>False,Own.yz (cur:= #[]) k rfl (Qj _),rfl,λ_ h=>h.elim⟩,λP b=>by simpa[aI]using b.symm,λP b=>oM⟩
   refine kj p Jh (D:=D) (h.af g) (λP b=>⟨by have:=f P b;omega,by have:=f P b;simp only[aI];intro q;cases q;omega⟩) bc (by unfold aS at b;unfold maxLen;simp;omega) λi r A B s t _ u=>?_;refine⟨_,_,_,rfl,Ok.mk ⟨i,_,r,λP=>aI i=some P,rfl,by have h:=s.alone;rw[List.nil_append]at h;exact h,g.new t λP b=>.inr ?_,λP b=>?_⟩⟩
   ·simp only[aI,Q1]at b;omega
   ·rcases u P b with h|h<;>omega
def HA{p:jM->Bool}{n:XU}(i:Row fL 32 w D n a f7)(t:enters XG y=true)(u:∀d e,ai w e->ZH y (#[]++ #[.agg (mM d).toArray]++o) e (Ok λf q=>f= .bool (p d)/\ai e q)):
  ZH 129 #[.slice n a c,.func (.func y) #[] o] w (Ok λf w'=>f= .bool (f7.any p)/\ai w w'):=by
 have E:=i.len;have v:=i.ef;unfold aS at v;refine fr (PC.ok (φ:=λf w'=>(∃b:Int,f= QH b/\(0<=b↔f7.any p=true))/\ai w w') (fP ⟨λd b w'=>∃P:Nat,b=P/\P<=a/\d=a-P/\(f7.take P).any p=false/\ai w w',
  ⟨_,0,rfl,Qj _,rfl,sM,aj.refl _⟩,?_⟩) ?_)
 ·rintro d b _ e ⟨P,rfl,F,rfl,j,g⟩
  refine al.dec (λx=>?_) (λx=>?_)
  ·obtain⟨z,k,l,H,rfl,_,_,r,A,rfl,_⟩:=(i.af g).BR (i:=P) oM
   refine⟨z,k,rfl,oM,oM,bW (Ib l) rfl A ⟨y,_,_,rfl,t,PC.ok (u l e g) ?_⟩⟩;rintro _ q ⟨rfl,s⟩;refine⟨_,rfl,al.mk (λm=>?_) (λm=>?_)⟩
   ·exact Ok.mk ⟨⟨_,rfl,λ_=>List.any_eq_true.2 ⟨l,QZ r,m⟩,λ_=>oM⟩,g.then s⟩
   ·refine⟨_,oM,P+1,an oM,oM,rfl,?_,g.then s⟩
    rw[Qw,r,List.any_append,j];simp[m]
  ·rw[Qz oM]at j
   exact Ok.mk ⟨⟨_,rfl,λh=>oM,λh=>by rw[j]at h;cases h⟩,g⟩
 ·rintro _ w' ⟨⟨b,rfl,B⟩,C⟩
  exact⟨_,rfl,Ok.mk ⟨by cases h:f7.any p<;>simp[h]at B⊢<;>omega,C⟩⟩
def aW.uW(P:d.BJ e u=some b4):0<=e/\e<d.types.length/\∃a,d.types[e.toNat]? =some a/\d.at e=a/\0<=u/\u<a.length/\a[u.toNat]? =some b4:=by
 unfold aW.BJ at P;split at P
 ·rename_i b
  simp only[QK,bF]at b;have c:e.toNat<d.types.length:=oM
  have f:d.at e=d.types[e.toNat]:=by unfold aW.at;rw[Zx (bF.2 b.1)];simp[c]
  rw[f]at b P;exact⟨oM,oM,_,by simp[c],f,oM,oM,P⟩
 ·cases P
def nC(n:bl w D d ta tn pa pn)(y:∀P,D P->P<w.heap.size):
  ZH 71 #[.agg #[.slice ta tn tc,.slice pa pn pc],QH e,QH u] w (Ok λz w'=>ai w w'/\match d.BJ e u with
   |none=>z= .tuple #[.agg (dF TV none 0 0).toArray,.bool false]
   |some c=>∃A B C E,z= .tuple #[.agg (dF c A B C).toArray,.bool true]/\aV fL 125 E w' A B C c.bt/\(∀P,E P->w.heap.size<=P)):=by
 have o:=n.bk.len;have a:=n.bk.ef;unfold aS at a;have b:within e 0 ((tn:Int)-1)=false->d.BJ e u=none:=λF=>by unfold aW.BJ;rw[o]at F;rw[Zq (by simp[F])]
 refine y_ (PA.mk λw1 V s1 p=>PA.mk λw2 k s2 q=>⟨_,_,_,ae (k.get p id) rfl,PC.ok cm ?_⟩);rintro _ _ ⟨rfl,rfl⟩;rw[wrap_i64 bb];have f:=V.then k;refine⟨_,rfl,al.not (al.mk (λh=>?_) (λh=>?_))⟩
 rotate_left
 ·refine aC (cs:=dF TV none 0 0) (eX _ _ _ _) q rfl λH g I i=>ay (eX _ _ _ _) i (Ok.mk ⟨f.new g λP a=>.inr oM,?_⟩)
  rw[b h]
 have W:=bF.1 h;refine⟨_,_,_,ae (k.get p id) rfl,?_⟩;obtain⟨P,j,X,es,rfl,a8,a9,Y,Z,b0,n1,c1,rfl,r⟩:=((n.af f).bk).at (i:=e) oM oM;have J:=r.len;have a0:=r.ef;unfold aS at a0;have K:d.at e=X:=by
  unfold aW.at;rw[Zx (by rw[<-o];exact h),QQ,Y];rfl
 have s:=Z 0 dC;simp only[jX,Nat.mul_one,Nat.add_zero]at s;refine⟨P,j,rfl,oM,oM,_,_,_,s,PC.ok cm ?_⟩;rintro _ _ ⟨rfl,rfl⟩;rw[wrap_i64 bb];refine⟨_,rfl,al.not (al.mk (λl=>?_) (λl=>?_))⟩
 rotate_left
 ·refine aC (cs:=dF TV none 0 0) (eX _ _ _ _) q rfl λH g I i=>ay (eX _ _ _ _) i (Ok.mk ⟨f.new g λP a=>.inr oM,?_⟩)
  rw[show d.BJ e u=none by unfold aW.BJ;rw[K,<-J,Zq (by simp[l])]]
 have a1:=bF.1 l;refine⟨_,_,_,ae (k.get p id) rfl,P,j,rfl,oM,oM,_,_,_,s,?_⟩;obtain⟨b2,a2,c,b1,rfl,b3,b4,a3,a4,L,M,N,rfl,hM,b5,b6⟩:=r.at (i:=u) oM oM;have a5:d.BJ e u=some c:=by unfold aW.BJ;rw[K,<-J,<-o,Zx (by simp[h,l])];exact a3
 refine⟨b2,a2,rfl,oM,oM,bW (eX c L M N) rfl a4 (PA.mk λH g I i=>aC (eX c L M N) i rfl λw4 t s4 O=>⟨_,_,_,ae O rfl,PC.ok (rK ((hM.af g).keep t λP a Q=>by have:=y P a;have:=f.size;omega) λP a=>by have:=y P a;have:=f.size;omega) ?_⟩)⟩;rintro _ w5 ⟨R,S,T,F5,rfl,a6,m,v⟩;have z5:=m.size;refine⟨_,_,_,rfl,PS.mk (m.get O id) (by simp[dF]) λw6 x s6 g6=>ay (cs:=dF c R S T) (eX _ _ _ _) g6 (aC (eX _ _ _ _) (x.get (m.get (t.get (g.get q id) oM) id) oM) rfl λw7 U s7 g7=>ay (eX _ _ _ _) g7 (Ok.mk ⟨?_,?_⟩))⟩
 ·have a7:ai w w6:=((((f.then g).new t λP a=>.inr oM).then m)).new x λP a=>.inr oM
  exact a7.new U λP a=>.inr oM
 ·rw[a5]
  exact⟨R,S,T,F5,rfl,(a6.keep x λP a Q=>by have:=v P a;omega).keep U λP a Q=>by have:=v P a;omega,λP a=>by have:=v P a;have:=f.size;omega⟩
end
variable{c5:Int}{I c6 j p:Nat}{c7 d t:XU}{K l:ah}
section
variable {w w':World} {D E:XM}
def tT(h:Row aM 8 w E t j K.aJ):ZH 305 #[jJ l d a c,jJ K t j p] w (Ok λi w'=>i= .bool (zn l K)/\ai w w'):=by
 refine zh (PA.mk λq k r P=>PA.mk λm f s b=>λn o=>⟨no,?_⟩);have e:ai m n:=o.keep;have P:=e.get (f.get P id) id;have b:=e.get b id;have g:=(k.then f).then e;refine⟨_,_,_,ae b rfl,_,ae P rfl,id,_,ae P rfl,PC.ok (mN (h.rX.af g)) ?_⟩;rintro _ _ ⟨rfl,rfl⟩;exact⟨_,rfl,aj.refl _,Ok.mk ⟨rfl,g⟩⟩
def Gc(k:Row aM 8 w D d a l.aJ)(m:Row aM 8 w E t j K.aJ):ZH 266 #[jJ l d a c,jJ K t j p] w (Ok λn w'=>n= .bool (tU l K)/\ai w w'):=by
 refine Bu (PA.mk λs o u P=>PA.mk λv i x f=>?_);have P:=i.get P id;have b:=o.then i;refine⟨_,_,ae P rfl,ae P rfl,_,_,ae f rfl,ae f rfl,Ki.neq ⟨_,rfl,?_⟩⟩;have q:(!(l.origin==K.origin&&l.seq==K.seq))=(aX l !=aX K):=rfl;rw[q];refine al.mk (λg=>ay (bf l d a c) P (ay (bf K t j p) f (PC.ok (tT (m.af b)) ?_))) (λg=>Ok.mk ⟨by unfold tU;rw[g];rfl,b⟩);rintro _ y ⟨rfl,e⟩;refine⟨_,rfl,al.not (al.mk (λh=>Ok.mk ⟨by unfold tU;rw[g,h];rfl,b.then e⟩) (λh=>ay (bf K t j p) (e.get f id) (ay (bf l d a c) (e.get P id) (PC.ok (tT (k.af (b.then e))) ?_))))⟩;rintro _ z ⟨rfl,r⟩;exact⟨_,rfl,Ok.mk ⟨by unfold tU;rw[g,h];rfl,(b.then e).then r⟩⟩
def kV:HR XG 385 3:=⟨kR,kR,⟨ "op", "arg",kR,dC,dC⟩,kR,kR,kR⟩
abbrev Vw(P:br)(a:XU)(b c:Nat):Value:=.agg (dF P a b c).toArray
def vL:ZH 265 #[Vw b4 d a c,QH e,QH u,QH Y,QH c5] w (Ok λx w'=>x= .bool (eH b4 (e,u) (Y,c5))/\ai w w'):=by
 refine sF (PA.mk λN C S E=>PA.mk λO y T F=>PA.mk λU o V H=>PS.mk (o.get F id) sM λW p X I=>PS.mk I sM λZ q s5 J=>PS.mk (q.get (p.get H oM) oM) sM λw6 r s6 K=>PS.mk K sM λs t s7 L=>?_);have Q:ai w s:=(((((C.then y).then o).new p λi z=>.inr oM).new q λi z=>.inr oM).new r λi z=>.inr oM).new t λi z=>.inr oM;have R:=t.get (r.get (q.get (p.get (o.get (y.get E id) id) oM) oM) oM) oM;have b:s.heap[N.heap.size]? =some (.cells #[QH e,QH u] 385 (0,0)):=t.get (r.get J oM) oM;have f:s.heap[O.heap.size]? =some (.cells #[QH Y,QH c5] 385 (0,0)):=L
 clear E F H I J K L C y o p q r t
 have P:∀{i:Bool},eH b4 (e,u) (Y,c5)=i->Ok (λx w'=>x= .bool (eH b4 (e,u) (Y,c5))/\ai w w') (.returned (.bool i)) s:=λ{i} j=>Ok.mk ⟨by rw[j],Q⟩;have M:(((e,u):Int×Int) !=(Y,c5))= !(e==Y&&u==c5):=rfl;refine⟨_,ae R rfl,al.dU (λg=>?_) (λg=>al.dU (λm=>?_) (λm=>al.dU (λA=>?_) (λA=>P ?_)))⟩
 ·refine⟨_,ae b rfl,al.dU (λh=>⟨_,ae f rfl,al.dU (λk=>⟨_,_,ae b rfl,ae b rfl,_,_,ae f rfl,ae f rfl,kV.neq ⟨_,rfl,P ?_⟩⟩) (λk=>P ?_)⟩) (λh=>P ?_)⟩
  ·unfold eH;rw[Zx g,M,show e=2 from h,show Y=2 from k];rfl
  ·unfold eH;rw[Zx g,show e=2 from h,show(Y==2)=false by simpa using k];rfl
  ·unfold eH;rw[Zx g,show(e==2)=false by simpa using h];rfl
 ·refine⟨_,ae b rfl,al.dU (λh=>⟨_,ae f rfl,al.dU (λk=>⟨_,_,ae b rfl,ae b rfl,_,_,ae f rfl,ae f rfl,kV.neq ⟨_,rfl,P ?_⟩⟩) (λk=>P ?_)⟩) (λh=>P ?_)⟩
  ·unfold eH;rw[Zq g,Zx m,M,show e=5 from h,show Y=5 from k];rfl
  ·unfold eH;rw[Zq g,Zx m,show e=5 from h,show(Y==5)=false by simpa using k];rfl
  ·unfold eH;rw[Zq g,Zx m,show(e==5)=false by simpa using h];rfl
 ·have n:eH b4 (e,u) (Y,c5)=((e==3&&u==c5)&&(Y==4&&c5==u)||(e==4&&u==c5)&&(Y==3&&c5==u)):=by
   unfold eH;rw[Zq g,Zq m,Zx A];rfl
  refine⟨_,_,ae b rfl,ae b rfl,kV.eql ⟨_,rfl,al.mk (λv=>⟨_,_,ae f rfl,ae f rfl,kV.eql ⟨_,rfl,al.mk (λB=>P ?_) (λB=>?_)⟩⟩) (λv=>?_)⟩⟩
  ·rw[n,v,B];rfl
  ·have j:((e==3&&u==c5)&&(Y==4&&c5==u))=false:=by rw[v,B];rfl
   exact⟨_,_,ae b rfl,ae b rfl,kV.eql ⟨_,rfl,al.mk (λl=>⟨_,_,ae f rfl,ae f rfl,kV.eql ⟨_,rfl,P (by rw[n,j,l];rfl)⟩⟩) (λl=>P (by rw[n,j,l];rfl))⟩⟩
  ·have j:((e==3&&u==c5)&&(Y==4&&c5==u))=false:=by rw[v];rfl
   exact⟨_,_,ae b rfl,ae b rfl,kV.eql ⟨_,rfl,al.mk (λl=>⟨_,_,ae f rfl,ae f rfl,kV.eql ⟨_,rfl,P (by rw[n,j,l];rfl)⟩⟩) (λl=>P (by rw[n,j,l];rfl))⟩⟩
 ·unfold eH;rw[Zq g,Zq m,Zq A]
def zo{f:br}(s:Row aM 8 w D t j l.aJ)(u:Row aM 8 w E c7 I K.aJ):
  ZH 203 #[Vw f d a c,jJ l t j p,jJ K c7 I c6] w (Ok λv w'=>v= .bool (lD f l K)/\ai w w'):=by
 refine vF (PA.mk λC x F y=>PA.mk λH q J z=>PA.mk λA i L g=>?_);have k:=i.get (q.get y id) id;have h:=i.get z id;have e:=(x.then q).then i;refine⟨λr w'=>r=(f.dO==2||f.dO==3&&decide (K.arg<l.arg))/\A=w',?_,?_⟩
 ·refine⟨_,ae k rfl,al.dU (λP=>⟨by rw[show f.dO=2 from P];rfl,rfl⟩) (λP=>⟨_,ae k rfl,al.dU (λm=>⟨_,ae h rfl,_,ae g rfl,?_,rfl⟩) (λm=>⟨?_,rfl⟩)⟩)⟩
  ·rw[show f.dO=3 from m];rfl
  ·rw[show(f.dO==2)=false by simpa using P,show(f.dO==3)=false by simpa using m];rfl
 ·rintro r _ _ ⟨n,rfl⟩
  refine al.mk (λP=>?_) (λP=>Ok.mk ⟨by unfold lD;rw[<-n,P];rfl,e⟩);refine ay (eX f d a c) k ⟨_,ae h rfl,_,ae h rfl,_,ae g rfl,_,ae g rfl,PC.ok vL ?_⟩;rintro _ M ⟨rfl,b⟩;refine⟨_,rfl,al.mk (λo=>ay (bf l t j p) (b.get h id) (ay (bf K c7 I c6) (b.get g id) (PC.ok (Gc (s.af (e.then b)) (u.af (e.then b))) ?_))) (λo=>Ok.mk ⟨by unfold lD;rw[<-n,P,o];rfl,e.then b⟩)⟩;rintro _ N ⟨rfl,B⟩;exact⟨_,rfl,Ok.mk ⟨by unfold lD;rw[<-n,P,o];rfl,(e.then b).then B⟩⟩
end
def jY:fO cW Int where
 k:=2
 ci:=aM
 ib:=8
 inner:=(·.set)
 hd:=λP a b c=>[QH P.n,.slice a b c]
 ok:=λP=>aN P.n/\vb P.set/\P.set.length<=64
 hl:=λ_ _ _ _=>rfl
 h1:=λP a b c e d=>by simp at d;rcases d with rfl|rfl<;>rfl
 o:=1
 ho:=dC
 fQ:=λ_ _ _ _ _ _ _=>rfl
abbrev gG:jK cW:=jY.Ls
def Nn:jx XG 40 84 2 32:=⟨kR,kR,dC⟩
abbrev PG(P:Int):Nat:=if P=1 then 211 else if P=3 then 216 else if P=5 then 219 else 214
abbrev Uh(P:Int):Nat:=if P=1 then 212 else if P=2 then 215 else if P=3 then 217 else if P=4 then 218 else 220
def oR(P:Int):Value:=.agg #[.func (.func (PG P)) #[] #[],.func (.func (Uh P)) #[] #[]]
def yE:lT XG 259 3 257 (.agg #[.nilFunc,.nilFunc]):=⟨kR,kR⟩
def Dk:iD XG 3 (Value.int .i64):=Tk kR
variable{b5:List cW}
section
variable {w w':World} {D E:XM}
def yF:ZH 154 #[] w (Ok λc w'=>∃b,c= .map (some b)/\bU w' b (Value.int .i64) [((1:Int),oR 1),(2,oR 2),(3,oR 3),(4,oR 4),(5,oR 5)]/\ai w w'):=by
 refine Dp (PA.mk λp d q e=>?_);refine iN (k:=(1:Int)) yE Dk (bU.new e) λr f g s=>iN (k:=(2:Int)) yE Dk f λt h i u=>iN (k:=(3:Int)) yE Dk h λv j k x=>iN (k:=(4:Int)) yE Dk j λy l m z=>iN (k:=(5:Int)) yE Dk l λA n o B=>Ok.mk ⟨_,rfl,n,?_⟩;exact((((d.new g λP a=>.inr oM).new i λP a=>.inr oM).new k λP a=>.inr oM).new m λP a=>.inr oM).new o λP a=>.inr oM
def Km(P:1<=e)(a:e<=5):aq [((1:Int),oR 1),(2,oR 2),(3,oR 3),(4,oR 4),(5,oR 5)] e=some (oR e):=by
 have:e=1\/e=2\/e=3\/e=4\/e=5:=oM
 rcases this with rfl|rfl|rfl|rfl|rfl<;>rfl
def Tl(P:br)(a:XU)(b c:Nat)(d:XU)(e f:Nat)(g arg:Int):List Value:=[QH P.kind,QH P.dO,.bool P.floor,.slice a b c,.slice d e f,QH g,QH arg]
abbrev yG(P:br)(a:XU)(b c:Nat)(d:XU)(e f:Nat)(g arg:Int):Value:=.agg (Tl P a b c d e f g arg).toArray
def tl(P:br)(a:XU)(b c:Nat)(d:XU)(e f:Nat)(g arg:Int):jf XG 262 (Tl P a b c d e f g arg)=true:=kR
variable {f:br} {ma ca:XU} {mn mc cn cc i:Nat} {arg:Int}
def gY(b:ca=some ⟨a,c,none⟩)(g:i<cn):ZH 213 #[yG f ma mn mc ca cn cc (i:Int) arg] w (Ok λd w'=>d= .pointer (some ⟨a,c+i*2,none⟩)/\ai w w'):=
 xq (PA.mk λh e j P=>⟨_,_,_,ae P rfl,_,ae P rfl,a,c,b,oM,oM,Ok.mk ⟨rfl,e⟩⟩)
def No(e:List br)(d:List cW)(P c arg:Int):Bool:=
 let f:=e.getD P.toNat ⟨0,0,false,[]⟩
 let a:=d.getD P.toNat ⟨0,[]⟩
 if c=1 then(arg==0||Kn a.n arg)&& !(f.floor&&decide (nX (a.n+arg)<0))
 else if c=3 then decide (arg∈a.set)||decide (a.set.length<64)
 else if c=5 then(let b:=f.bt.getD arg.toNat ⟨0,0,0,0⟩;a.n==b.bX&&(decide (b.ky<0)||decide (b.least<=(d.getD b.ky.toNat ⟨0,[]⟩).n)))
 else true
def Dq(a:List br)(b:List cW)(P c arg:Int):vg a b P c arg=if No a b P c arg then 0 else 10:=rfl
def lN{bytes:Nat}(f:Row gG bytes w D ca cn b5)(g:i<cn):∃P a b c d,ca=some ⟨P,a,none⟩/\P<w.heap.size/\D P/\w.cell? ⟨P,a+i*2,none⟩=some (QH (b5.getD i ⟨0,[]⟩).n)/\w.cell? ⟨P,a+i*2+1,none⟩=some (.slice b c d)/\Row aM 8 w D b c (b5.getD i ⟨0,[]⟩).set/\aN (b5.getD i ⟨0,[]⟩).n/\vb (b5.getD i ⟨0,[]⟩).set/\(b5.getD i ⟨0,[]⟩).set.length<=64:=by
 have h:=f.len;obtain⟨P,a,p,k,l,m,j,b,c,d,rfl,n,e⟩:=f.el i b5[i] (by simp[h▸g]);have o:b5.getD i ⟨0,[]⟩=b5[i]:=by simp[QQ,h▸g]
 rw[o];exact⟨P,a,b,c,d,k,l,m,by have:=j 0 dC;simpa[jY,fO.Ls]using this,by have:=j 1 dC;simpa[jY,fO.Ls]using this,n,e.1,e.2.1,e.2.2⟩
def Np:ZH 278 #[QH e,QH u] w (Ok λP w'=>P= .bool (Kn e u)/\w=w'):=Ia (Ok.mk ⟨rfl,rfl⟩)
def FH{bytes:Nat}(l:Row gG bytes w D ca cn b5)(h:i<cn):
  ZH 211 #[yG f ma mn mc ca cn cc (i:Int) arg] w (Ok λm w'=>m= .bool ((arg==0||Kn (b5.getD i ⟨0,[]⟩).n arg)&& !(f.floor&&decide (nX ((b5.getD i ⟨0,[]⟩).n+arg)<0)))/\ai w w'):=by
 refine Bc (PA.mk λs j t k=>ay (tl ..) k ?_);obtain⟨n,o,u,v,x,p,q,y,r,b,-⟩:=lN (l.af j) h;refine PC.ok (gY p h) ?_;rintro _ z ⟨rfl,e⟩;have a:=e.get k id;have c:=j.then e;refine⟨_,rfl,_,_,rfl,_,(e.cell (a:=⟨n,o+i*2,none⟩) q id).trans r,_,ae a rfl,al.dU (λd=>⟨_,ae a rfl,al.mk (λP=>⟨_,ae a rfl,Ok.mk ⟨?_,c⟩⟩) (λP=>Ok.mk ⟨?_,c⟩)⟩) (λd=>⟨_,ae a rfl,PC.ok Np ?_⟩)⟩
 ·rw[show(arg==0)=true by simpa using d,P];rfl
 ·rw[show(arg==0)=true by simpa using d,P];rfl
 ·rintro _ _ ⟨rfl,rfl⟩
  have g:(arg==0)=false:=by simpa using d
  refine⟨_,rfl,al.mk (λb=>⟨_,ae a rfl,al.mk (λP=>⟨_,ae a rfl,Ok.mk ⟨?_,c⟩⟩) (λP=>Ok.mk ⟨?_,c⟩)⟩) (λb=>Ok.mk ⟨?_,c⟩)⟩
  ·rw[g,b,P];rfl
  ·rw[g,b,P];rfl
  ·rw[g,b];rfl
def FI{bytes:Nat}(n:Row gG bytes w D ca cn b5)(a:i<cn):
  ZH 216 #[yG f ma mn mc ca cn cc (i:Int) arg] w (Ok λo w'=>o= .bool (decide (arg∈(b5.getD i ⟨0,[]⟩).set)||decide ((b5.getD i ⟨0,[]⟩).set.length<64))/\ai w w'):=by
 refine Bd (PA.mk λp q A r=>λs t=>⟨no,?_⟩);have d:ai p s:=t.keep;have b:=d.get r id;have c:=q.then d;obtain⟨e,g,B,C,E,h,j,F,H,u,k,-,v,-⟩:=lN (n.af c) a;refine ay (tl ..) b ⟨id,_,ae b rfl,PC.ok (gY h a) ?_⟩;rintro _ I ⟨rfl,P⟩;have l:=(P.cell (a:=⟨e,g+i*2+1,none⟩) j id).trans u;refine⟨_,rfl,ai.keep P,_,_,rfl,_,_,_,l,PC.ok (rO (k.af P) v) ?_⟩;rintro _ _ ⟨rfl,rfl⟩;refine⟨_,_,rfl,aj.refl _,al.mk (λx=>Ok.mk ⟨by rw[x];rfl,c.then P⟩) (λy=>ay (tl ..) (P.get b id) (PC.ok (gY h a) ?_))⟩;rintro _ J ⟨rfl,m⟩;have z:=k.len;refine⟨_,rfl,_,_,rfl,_,_,_,(m.cell (a:=⟨e,g+i*2+1,none⟩) (Qk j P.size) id).trans l,Ok.mk ⟨?_,(c.then P).then m⟩⟩;rw[y,z]
 congr 1
 rw[Bool.false_or,decide_eq_decide];omega
def Dr{bytes:Nat}(n:Row gG bytes w D ca cn b5)(o:i<cn)(p:Row fL 32 w E ma mn f.bt)(h0:0<=arg)(h1:arg<(mn:Int))(q:((f.bt.getD arg.toNat ⟨0,0,0,0⟩).ky)<(cn:Int)):
  ZH 219 #[yG f ma mn mc ca cn cc (i:Int) arg] w (Ok λC w'=>C= .bool (let P:=f.bt.getD arg.toNat ⟨0,0,0,0⟩;(b5.getD i ⟨0,[]⟩).n==P.bX&&(decide (P.ky<0)||decide (P.least<=(b5.getD P.ky.toNat ⟨0,[]⟩).n)))/\ai w w'):=by
 refine yH (PA.mk λF r s1 g=>?_);have a0:=p.len;obtain⟨a,rfl⟩:∃a:Nat,arg=a:=⟨arg.toNat,oM⟩
 have s:a<f.bt.length:=oM
 obtain⟨H,I,es,J,a1,-,t,rfl,-⟩:=(p.af r).el a f.bt[a] (by simp[s]);have K:f.bt.getD a ⟨0,0,0,0⟩=f.bt[a]:=by simp[QQ,s]
 simp only[Qx,K]at q⊢;generalize f.bt[a]=P at t q;refine⟨_,_,_,ae g rfl,_,ae g rfl,H,I,J,oM,oM,bW (es:=mM P) (k:=4) (Ib P) rfl (λL M=>t L M) (PA.mk λw2 N s2 O=>aC (Ib P) O rfl λu Q s3 R=>λS T=>⟨no,?_⟩)⟩;have v:ai F u:=N.new Q λx y=>.inr oM;have h:ai u S:=T.keep;have z:=(r.then v).then h;have A:=h.get (v.get g id) id;have b:=h.get R id;obtain⟨x,U,a2,a3,a4,V,y,a5,W,hs,-⟩:=lN (n.af z) o;refine ay (tl ..) A ⟨id,_,ae b rfl,PC.ok (gY V o) ?_⟩;rintro _ w5 ⟨rfl,c⟩;have b:=c.get b id;have d:=z.then c;refine⟨_,rfl,ai.keep c,_,_,rfl,_,(c.cell (a:=⟨x,U+i*2,none⟩) y id).trans W,al.dU (λe=>⟨_,ae b rfl,al.dec (λj=>Ok.mk ⟨?_,d⟩) (λj=>?_)⟩) (λe=>Ok.mk ⟨?_,d⟩)⟩
 ·rw[show((b5.getD i ⟨0,[]⟩).n==P.bX)=true by simpa using e,Zy j];rfl
 ·obtain⟨k,B⟩:∃k:Nat,P.ky=k:=⟨P.ky.toNat,oM⟩
  obtain⟨X,Y,a',n',c',l,Z,-,m,-⟩:=lN (n.af d) (i:=k) oM;refine⟨_,_,_,ae (c.get A id) rfl,_,ae b rfl,X,Y,l,oM,oM,_,by rw[B,Qx];exact m,_,ae b rfl,Ok.mk ⟨?_,d⟩⟩;rw[show((b5.getD i ⟨0,[]⟩).n==P.bX)=true by simpa using e,Xv j,B,Qx];rfl
 ·rw[show((b5.getD i ⟨0,[]⟩).n==P.bX)=false by simpa using e];rfl
end
variable{a3:List Value}{h:Program}{m r:XN}
section
variable {w w':World} {D E:XM}
structure FJ (t:List br) (cells:List cW) (fi op arg:Int):Prop where
 f0:0<=fi
 f1:fi<(t.length:Int)
 len:cells.length=t.length
 Tm:1<=op
 Tn:op<=5
 mv:op=5->0<=arg/\arg<((t.getD fi.toNat ⟨0,0,false,[]⟩).bt.length:Int)/\(((t.getD fi.toNat ⟨0,0,false,[]⟩).bt.getD arg.toNat ⟨0,0,0,0⟩).ky)<(t.length:Int)
variable {t:List br} {cells:List cW} {op arg:Int} {ma ca ta:XU} {mn mc cn cc tn tc i:Nat} {bytes:Nat}
def Nq(P:FJ t cells (i:Int) op arg)(a:Row gG bytes w D ca cn cells)(d:Row fL 32 w E ma mn (t.getD i ⟨0,0,false,[]⟩).bt):
  enters XG (PG op)=true/\ZH (PG op) (#[]++ #[yG (t.getD i ⟨0,0,false,[]⟩) ma mn mc ca cn cc (i:Int) arg]++ #[]) w (Ok λg w'=>g= .bool (No t cells (i:Int) op arg)/\ai w w'):=by
 have b:i<cn:=by have:=a.len;have:=P.f1;have:=P.len;omega
 have m:=P.Tm;have n:=P.Tn;have:op=1\/op=2\/op=3\/op=4\/op=5:=oM
 rcases this with rfl|rfl|rfl|rfl|rfl
 ·exact⟨kR,FH a b⟩
 ·exact⟨kR,qZ (PA.mk λh c j k=>Ok.mk ⟨rfl,c⟩)⟩
 ·exact⟨kR,FI a b⟩
 ·exact⟨kR,qZ (PA.mk λh c j k=>Ok.mk ⟨rfl,c⟩)⟩
 ·obtain⟨l,e,f⟩:=P.mv rfl
  rw[Qx]at e f;exact⟨kR,Dr a b d l (by rw[d.len];exact e) (by rw[a.len,P.len];exact f)⟩
def Nr(op:Int):jf XG 257 [.func (.func (PG op)) #[] #[],.func (.func (Uh op)) #[] #[]]=true:=kR
def Ds{bytes:Nat}(f:Row nY bytes w D ta tn t)(g:i<tn):∃P a b c e,ta=some ⟨P,a,none⟩/\P<w.heap.size/\D P/\w.cell? ⟨P,a+i*4,none⟩=some (QH (t.getD i ⟨0,0,false,[]⟩).kind)/\w.cell? ⟨P,a+i*4+1,none⟩=some (QH (t.getD i ⟨0,0,false,[]⟩).dO)/\w.cell? ⟨P,a+i*4+2,none⟩=some (.bool (t.getD i ⟨0,0,false,[]⟩).floor)/\w.cell? ⟨P,a+i*4+3,none⟩=some (.slice b c e)/\Row fL 32 w D b c (t.getD i ⟨0,0,false,[]⟩).bt:=by
 have h:=f.len;obtain⟨P,a,o,j,k,l,d,b,c,e,rfl,m,p⟩:=f.el i t[i] (by simp[h▸g]);have n:t.getD i ⟨0,0,false,[]⟩=t[i]:=by simp[QQ,h▸g]
 rw[n];exact⟨P,a,b,c,e,j,k,l,d 0 dC,d 1 dC,d 2 dC,d 3 dC,m⟩
def FK(P:FJ t cells e op arg)(g:Row nY 48 w E ta tn t)(n:Row gG bytes w D ca cn cells):
  ZH 88 #[.agg #[.slice ta tn tc],.slice ca cn cc,QH e,QH op,QH arg] w (Ok λo w'=>o= QH (vg t cells e op arg)/\ai w w'):=by
 obtain⟨i,rfl⟩:∃i:Nat,e=i:=⟨e.toNat,by have:=P.f0;omega⟩
 refine Ic (PA.mk λL p M q=>PC.ok yF ?_);rintro _ N ⟨O,rfl,r,b⟩;refine⟨_,rfl,lU yE Dk r ?_⟩;rw[Km P.Tm P.Tn];refine⟨_,_,_,rfl,PA.mk λQ h R s=>aC (Nr op) s rfl λu j S d=>λk v=>al.tt rfl ?_⟩;have f:ai u k:=v.keep;have c:ai w k:=((p.then (b.then h)).new j λl a=>.inr (by have:=b.size;omega)).then f;have d:=f.get d id;have x:=f.get (j.get (h.get (b.get q id) id) (by have:=b.size;omega)) id;have T:=P.f1;have U:=g.len;obtain⟨l,y,V,W,z,A,a,X,B,C,F,H,I⟩:=Ds (g.af c) (i:=i) oM;obtain⟨J,K⟩:=Nq (mc:=z) (cc:=cc) P (n.af c) I;refine⟨_,ae d rfl,_,_,_,ae x rfl,l,y,A,oM,oM,_,_,_,_,_,_,B,C,F,H,_,_,_,rfl,J,PC.ok K ?_⟩;rintro _ Y ⟨rfl,m⟩;rw[Dq];exact⟨_,rfl,al.not (al.mk (λa=>Ok.mk ⟨by rw[a];rfl,c.then m⟩) (λa=>Ok.mk ⟨by rw[a];rfl,c.then m⟩))⟩
def Ns(P:c<a*a3.length):((List.replicate a a3).flatten)[c]? =a3[c % a3.length]? :=by
 induction a generalizing c with
 |zero=>simp at P
 |succ a e=>
  rw[List.replicate_succ,List.flatten_cons]
  by_cases b:c<a3.length
  ·rw[XW b,Nat.mod_eq_of_lt b]
  ·rw[X8 oM,e (by rw[X7,Nat.one_mul]at P;omega)]
   obtain⟨d,rfl⟩:∃d,c=d+a3.length:=⟨c-a3.length,oM⟩
   rw[Nat.add_sub_cancel,Nat.add_mod_right]
def To{t d:TypeId}{P bytes:Nat}(g:jx h t d P bytes){z:Value}(j:(h.info? d).bind (·.zero)=some z)(l:a<=c)(s:c*bytes<=aS)(u:c<=aS){w:World}(v:∀w',Own w' d P (XL w.heap.size) a c (List.replicate a z.cells.toList).flatten->ai w w'->w'.heap.size=w.heap.size+1->m (.slice (XL w.heap.size) a c) w'):
  aG h (Instr.makeSlice t (QH (a:Int)) (QH (c:Int))) w m r:=by
 unfold aS at s u;obtain⟨i,b,n,o,x,y,e⟩:=jx.info g;have A:b=z:=by
  rw[n]at j;simp only[Option.bind_some,o]at j;exact XJ j
 subst A;have p:=run_make (P:=h) w t d i _ g.under n o .i64 .i64 a c oM oM (by rw[y,Int.mul_comm,<-Int.natCast_mul];omega) oM;rw[Qx,Qx,x]at p;have B:ai w (w.alloc (.cells (madeCells b.cells (c*P)) d)):=aj.alloc w _;have H:a*P<=c*P:=Q0 _ l;have C:(madeCells b.cells (c*P)).size=c*P:=size_madeCells ..;have E:((List.replicate a b.cells.toList).flatten).length=a*P:=by simp[e]
 refine aG.mk p (v _ ⟨⟨E,.inr ⟨w.heap.size,c,_,rfl,Qj _,heap_alloc_new w _,l,by unfold maxLen;omega,C,?_⟩⟩⟩ B sM);apply X3;intro f
 by_cases k:f<a*P
 ·rw[Xw,Zx k,Ns (by simp[e];exact k)]
  unfold madeCells;have F:=g.pos;have q:f % P<b.cells.size:=by rw[e];exact Nat.mod_lt _ F
  simp[e,show f<c*P by omega];rw[getElem!_pos b.cells (f % P) q,X6 q]
 ·rw[Xw,Zq k,Q7 oM]
def FL(j:ta=ta)(d:tn=t.length)(P:tn<=20000000):ZH 85 #[.agg #[.slice ta tn tc]] w (Ok (vh gG 84 w (dP t))):=by
 refine Ie (PA.mk λe f k a=>⟨_,_,_,ae a rfl,To Nn (z:=.agg #[QH 0,.slice none 0 0]) kR (Q4 _) ba ba λl b g m=>⟨_,_,_,rfl,Ok.mk ⟨_,_,_,(·=e.heap.size),rfl,⟨⟨_,λ_=>False,b,?_,λ_ h=>h.elim⟩,λc P=>by simpa[aI]using P.symm,λc P=>oM⟩,f.then g,λc P=>oM⟩⟩⟩);subst d
 clear b a
 unfold dP
 induction t with
 |nil=>rfl
 |cons n t i=>exact⟨_,_,rfl,⟨none,0,0,rfl,Row.nil _ _,by simp[aN],List.Pairwise.nil,sM⟩,i (by simp at P;omega)⟩

import Derived.Test.YtjgjkeponbeekaaGreatDoorKd16
set_option linter.all false
set_option maxHeartbeats 4000000
set_option maxRecDepth 100000
open Go.IntKind renaming wrap→ZG
namespace Go.Proofs.YtjgjkeponbeekaaGreatDoor
open Go.ar
def jL(D:an)(n:ByteArray):Bool:=decide (n=lM)||((ml n).2&& !decide ((ml n).1∈(fr D).getD []))
def KG(D:an):List ByteArray:=D.list.filter (jL D)
def VG(D:an)(n:List ByteArray):an:=n.foldl (λD P=>(D.delete P).2) D
def Bc(D:an):an:=VG D (KG D)
def Bd(n:List ByteArray):List (List Value):=n.map λP=>[.string P]
def PZ(D:an)(n:List (List Value)):an:=n.foldl (λD P=>match P with
 |[.string a]=>(D.delete a).2
 |_=>D) D
def En:∀(n:List ByteArray) (D:an),PZ D (Bd n)=VG D n
 |[],D=>rfl
 |s::n,D=>En n (D.delete s).2
def NC(D:an)(n:List (List Value))(P:ByteArray):PZ D (n++[[.string P]])=((PZ D n).delete P).2:=by
 unfold PZ;rw[List.foldl_append];rfl
def Eo(n:List ByteArray)(P:ByteArray):Bd (n++[P])=Bd n++[[.string P]]:=by unfold Bd;simp
variable{e:Int}{v:List Int}{a c i l:Nat}{d:YQ}{b:World}
def Dh{D:ZN}(P:Row aI 8 b D d a v):
  YX 265 #[.slice d a c,ZH e] b (Ok λp f=>(∃l:Int,p= ZH l/\(0<=l↔e∈v))/\b=f):=by
 have w:=P.len;have q:=P.ef;unfold aK at q;refine oe ⟨λm i f=>∃n:Nat,i=n/\n<=a/\m=a-n/\e∉v.take n/\b=f,⟨_,0,rfl,Qj _,rfl,sM,rfl⟩,?_⟩;rintro m i _ _ ⟨n,rfl,x,rfl,g,rfl⟩;refine al.dec (λr=>?_) (λr=>?_)
 ·obtain⟨s,j,y,rfl,o,_,t⟩:=P.mR (i:=n) oM
  refine⟨s,j,rfl,oM,oM,_,t,al.cX (λk=>?_) (λk=>?_)⟩
  ·exact Ok.mk ⟨⟨_,rfl,λ_=>k▸QZ o,λ_=>oM⟩,rfl⟩
  ·refine⟨_,oM,n+1,aq oM,oM,rfl,?_,rfl⟩
   rw[Qw,o];intro u;rcases Q6.1 u with h|h
   ·exact g h
   ·simp at h;exact k h
 ·rw[Qz oM]at g
  exact Ok.mk ⟨⟨_,rfl,λh=>oM,λh=>Zz h g⟩,rfl⟩
def wM{D:ZN}(n:Row aI 8 b D d a v):
  YX 209 #[.slice d a c,ZH e] b (Ok λP f=>P= .bool (decide (e∈v))/\b=f):=by
 refine lz (PC.ok (Dh n) ?_);rintro _ _ ⟨⟨h,rfl,g⟩,rfl⟩;exact⟨_,rfl,Ok.mk ⟨by rw[decide_eq_decide.2 g],rfl⟩⟩
section
variable {w0 w w1 w':World} {p:Nat} {D D':an} {X Y:ZN}
def aT.lt(P:aT w0 w p D X):∀n,X n->n<w.heap.size:=by obtain⟨b,c,d,e,a⟩:=P;exact a
def ND(h:aT w0 w p D X)(s:qu w0):YX 140 #[ZL p] w (Ok λt w'=>∃i j c d e,∃Y G:ZN,t= .func (.func 208) #[] #[ZL i,ZL j]/\
  (∃f k,w'.heap[i]? =some (.cells #[ZL p] f k))/\(∃f k,w'.heap[j]? =some (.cells #[.slice c d e] f k))/\aM aI 3 G w' c d e ((fr D).getD [])/\Y i/\Y j/\(∀P,G P->Y P)/\aT w0 w' p D (λP=>X P\/Y P)/\ai w w'):=by
 have A:=h.gr.size;refine yZ (PA.mk λw1 m B o=>⟨_,ae o rfl,PC.ok ((h.add m (Y:=(·=w.heap.size)) λP n=>⟨oM,oM⟩).jM s) ?_⟩);rintro _ a ⟨c,d,e,G,rfl,q,C,u,l⟩;refine⟨_,_,_,_,rfl,PA.mk λE g F v=>PS.mk v sM λH b I x=>Ok.mk ⟨w.heap.size,a.heap.size,c,d,e,λP=>(P=w.heap.size\/G P)\/P=a.heap.size,G,rfl,?_⟩⟩;have J:=l.size;have y:w.heap.size≠a.heap.size:=oM
 have r:∀P,G P->P<a.heap.size:=q.aC;have z:=u.add g (Y:=(·=a.heap.size)) λP n=>⟨oM,oM⟩
 refine⟨⟨_,_,b.get (g.get (l.get o id) id) y⟩,⟨_,_,x⟩,(q.ah g).af b (λP n f=>by have:=r P n;omega),.inl (.inl rfl),.inr rfl,λP n=>.inl (.inr n),?_,?_⟩
 ·refine z.dT b (λP n=>⟨.inr n,oM⟩) λP n=>⟨.inl ?_,?_⟩
  ·rcases n with n|(n|n)|n
   ·exact .inl (.inl (.inl n))
   ·exact .inl (.inl (.inr n))
   ·exact .inl (.inr n)
   ·exact .inr n
  ·have:=b.size
   rcases n with n|(n|n)|n
   ·have:=h.lt P n;omega
   ·omega
   ·have:=r P n;omega
   ·omega
 ·exact ak.new ((m.then l).then g) b λP n=>.inr oM
def CJ(w0 P:World)(p:Nat)(D:an)(d:ZN)(a:World×(ZN))(b:List (List Value))(c:World):Prop:=
 aT w0 c p (PZ D b) (λn=>(d n\/(P.heap.size<=n/\n<P.heap.size+2))\/a.2 n)/\ak (dz d) P c/\ak (dz a.2) a.1 c/\∀n,a.2 n->P.heap.size+2<=n
variable {w5:World} {X5:ZN} {s:World×(ZN)} {pre:List (List Value)} {A B:World}
def CJ.ah(n:CJ w0 w5 p D X5 s pre A)(P:ai A B):CJ w0 w5 p D X5 s pre B:=⟨n.1.ah P,n.2.1.ah P,n.2.2.1.ah P,n.2.2.2⟩
def CJ.dT(d:ai w0 w5)(e:CJ w0 w5 p D X5 s pre A)(f:qv (w5.heap.size+1) A B):CJ w0 w5 p D X5 s pre B:=by
 obtain⟨b,g,h,c⟩:=e;obtain⟨a,i⟩:=f;have:=d.size;refine⟨b.dT a (λn P=>⟨.inl (.inr ⟨oM,oM⟩),oM⟩) λn P=>⟨.inl P,by rw[i];exact b.lt n P⟩,g.new a λn P=>.inr oM,h.new a λn P=>.inl λj=>?_,c⟩;have:=c n j;omega
def Ir{G:ZN}{R:ZU}(X:Laid w0)(a5:∀n,X5 n->n<w5.heap.size)(r:∃t u,w5.heap[a]? =some (.cells #[ZL p] t u))(Y:X5 a)(v:∃t u,w5.heap[c]? =some (.cells #[.slice d i l] t u))(Z:X5 c)(hl:aM aI 3 G w5 d i l ((fr D).getD []))(hG:∀n,G n->X5 n)(E:∀A B,R A->ak (og w5) A B->R B)(F:∀s pre w A,CJ w0 w5 p D X5 s pre A->R A->tF [.string ⟨#[]⟩] w->jN ZP (w5.heap.size+1) w A λn m=>n=true/\CJ w0 w5 p D X5 s (pre++[w]) m/\R m)(x:CJ w0 w5 p D X5 (w5,no) [] w1)(a0:R w1)(a1:w5.heap.size+2<=w1.heap.size):
  YX 208 #[.func (.yield (w5.heap.size+1)) #[] #[],ZL a,ZL c] w1 (Ok λa4 w'=>R w'/\∃s,CJ w0 w5 p D X5 s (Bd (KG D)) w'):=by
 obtain⟨e2,f2,r⟩:=r;obtain⟨e4,f4,v⟩:=v;have H:aT w0 w1 p D _:=x.1;refine tG ⟨_,ae (x.2.1.get r λb=>b Y) rfl,PC.ok H.list ?_⟩;rintro _ y ⟨a8,I,c8,J,rfl,K,a2,h8,L⟩;have a6:D.list.length<=64:=by rw[oh];exact H.ok.many
 have a7:=K.len dC;have a3:CJ w0 w5 p D X5 (y,J) [] y:=⟨h8.mono λn e=>e.elim (λf=>.inl (.inl f)) .inr,x.2.1.ah L,ak.refl _,λn e=>Xx a1 (a2 n e)⟩
 refine⟨_,_,_,rfl,λM N w'=>∃P:Nat,N=P/\P<=I/\M=I-P/\CJ w0 w5 p D X5 (y,J) (Bd ((D.list.take P).filter (jL D))) w'/\R w',⟨_,0,rfl,Qj _,rfl,a3,E _ _ a0 (ai.af L)⟩,?_⟩;rintro M N _ a9 ⟨P,rfl,hj,rfl,j,O⟩;refine al.dec (λb0=>?_) (λb1=>?_)
 ·obtain⟨n,z,s,rfl,Q,_,k⟩:=((K.af j.2.2.1 λn e b=>b e).row (bytes:=16) dC (by unfold aK;omega)).mR (i:=P) oM
  refine⟨n,z,rfl,oM,oM,_,k,PC.ok (Be (X.ah j.1.gr)) ?_⟩;rintro _ b2 ⟨rfl,S⟩;have h:=j.ah S;have o:=E _ _ O (ai.af S);have T:tF [.string ⟨#[]⟩] [.string s]:=λφ f=>f s;have U:jL D s=true->(D.list.take (P+1)).filter (jL D)=(D.list.take P).filter (jL D)++[s]:=λf=>by
   rw[Qw,Q,List.filter_append];simp[f]
  have V:jL D s=false->(D.list.take (P+1)).filter (jL D)=(D.list.take P).filter (jL D):=λf=>by
   rw[Qw,Q,List.filter_append];simp[f]
  refine⟨_,_,rfl,al.Xl (λhe=>?_) (λW=>al.mk (λq=>?_) (λq=>?_))⟩
  ·refine⟨_,rfl,(F _ _ _ _ h o T).mono ?_⟩
   rintro _ m ⟨rfl,g,C⟩;refine al.ff rfl ⟨_,?_,P+1,aq oM,oM,rfl,?_,C⟩
   ·omega
   ·rw[U (by unfold jL;rw[show s=lM from he];simp),Eo];exact g
  ·refine⟨_,_,_,ae (h.2.1.get v λb=>b Z) rfl,PC.ok (wM ((hl.af h.2.1 λn e b=>b (hG n e)).row (bytes:=8) dC (by have:=Ep (D:=D);unfold aK;omega))) ?_⟩
   rintro _ _ ⟨rfl,rfl⟩;refine⟨_,rfl,al.mk (λk=>?_) (λk=>?_)⟩
   ·refine⟨_,rfl,(F _ _ _ _ h o T).mono ?_⟩
    rintro _ m ⟨rfl,g,C⟩;refine al.ff rfl ⟨_,?_,P+1,aq oM,oM,rfl,?_,C⟩
    ·omega
    ·rw[U (by unfold jL;rw[q,k];simp),Eo];exact g
   ·refine⟨_,?_,P+1,aq oM,oM,rfl,?_,o⟩
    ·omega
    ·rw[V (by unfold jL;rw[q,k,Xv (show¬s=lM from W)];rfl)];exact h
  ·refine⟨_,?_,P+1,aq oM,oM,rfl,?_,o⟩
   ·omega
   ·rw[V (by unfold jL;rw[q,Xv (show¬s=lM from W)];rfl)];exact h
 ·rw[Qz oM]at j
  exact Ok.mk ⟨O,_,j⟩
def NF(r:Laid w0)(b:aT w0 w p D X):YX 86 #[ZL p] w (Ok λh w'=>h= .tuple #[]/\aT w0 w' p (Bc D) X/\ak (dz X) w w'):=by
 have a6:=b.gr.size;refine y_ (PA.mk λw1 t s1 u=>⟨_,ae u rfl,PC.ok (ND (b.add t (Y:=(·=w.heap.size)) λn P=>⟨oM,oM⟩) r.nY) ?_⟩);rintro _ w5 ⟨b2,b4,a0,a1,a2,Y,G,rfl,C,E,F,H,I,J,i,j⟩;have K:=j.get u id;have k:=i.gr;have z5:=j.size;refine⟨_,rfl,208,_,rfl,kR,World×(ZN),(w5,no),CJ w0 w5 p D λn=>(X n\/n=w.heap.size)\/Y n,λ_ _ _=>False,λ_ _=>True,λl=>l=Bd (KG D),?_,λs pre A B c d=>c.dT k d,λ_ _ _ _ b _=>b,?_,?_,?_,trivial⟩
 ·intro L m s6
  exact⟨(i.add m (Y:=λn=>w5.heap.size<=n/\n<w5.heap.size+2) λn P=>⟨P.1,oM⟩).mono λn P=>P.elim id False.elim,ai.af m,ai.af m,λn P=>P.elim⟩
 ·intro s pre A c a7 a8 _
  refine⟨ak.refl _,λa9 d=>?_⟩;obtain⟨e,g,v,x⟩:=c.dT k d;refine⟨_,ae (g.get K λa=>a (.inl (.inr rfl))) rfl,PC.ok e.delete ?_⟩;rintro _ b0 ⟨rfl,M,o⟩;refine⟨_,rfl,o.mono λn _ a=>⟨λN=>a (.inl (.inr ⟨oM,oM⟩)),λN=>a (.inl (.inr ⟨oM,oM⟩))⟩,?_⟩;show CJ _ _ _ _ _ _ _ _;refine⟨by rw[NC];exact M,g.new o λn a=>.inl λf=>a (.inl (.inl f)),v.new o λn a=>.inl λf=>a (.inr f),x⟩
 ·intro O Rx Q _ R S L T y
  refine Calls.mono (Ir (R:=O) r i.lt C (.inr H) E (.inr I) F (λn P=>.inr (J n P)) Q (λs pre U A c V d=>(S s pre U A c V d trivial).mono ?_) T y (R _ y)) ?_
  ·rintro n W (b|⟨-,a3,b,-⟩)
   ·exact b
   ·exact b.elim
  ·rintro _ W ⟨h,rfl,Z,s,q⟩
   exact⟨⟨h,rfl⟩,.inl ⟨Z,s,_,q,rfl⟩⟩
 ·rintro s _ A ⟨e,g,v,x⟩ rfl hm
  refine⟨hm,λb1 ⟨z,a5⟩=>Ok.mk ⟨rfl,?_,?_⟩⟩
  ·rw[En]at e
   exact(e.dT z (λn P=>⟨.inl (.inr ⟨oM,oM⟩),by have:=k.size;omega⟩) λn P=>⟨.inl P,by rw[a5];exact e.lt n P⟩).mono λn P=>.inl (.inl (.inl (.inl P)))
  ·exact ak.new (ak.new (ai.af (t.then j)) g λn a=>.inl λf=>a (.inl (.inl f))) z λn P=>.inr oM
end
end Go.Proofs.YtjgjkeponbeekaaGreatDoor
namespace Go.Proofs
open Go.RowKit Go.Maps Go.Sort Go.Shelf
def Tryz.Ve(b:Nat):AnyZI.SortsIn Tryz.prog Tryz.yN Fence.wide b:=
 ⟨λaD P n c a d e f=>callsIn_wide.2 (AnyM.slices_Sort_int Tryz.vU aD P n c a d e f),
  λg n a=>callsIn_wide.2 (AnyM.slices_Sort_int_none Tryz.vU g n a)⟩
end Go.Proofs
namespace Go.Proofs.YtjgjkeponbeekaaGreatDoor
section
open Go.ar
open Go.RowKit Go.Maps Go.Sort Go.Shelf
def vU(n:List Int):List Int:=n.mergeSort (λP a=>decide (P<=a))
variable{g8:List (Int×Value)}{a c:Nat}{F:Nat×Nat}{g:TypeId}{b:World}
def z_(w:bJ b a (Value.int .i64) g8)(H:∀f∈g8,aJ f.1)(x:g8.length*8<=aK)(y:b.heap[c]? =some (.cells #[.map (some a)] g F)):
  YX 197 #[.func (.func 250) #[] #[ZL c]] b
   (Ok λp z=>Hu b 3 (vU (g8.map (·.1))) p z):=by
 unfold aK at x;obtain⟨d,h,I,l,J,K⟩:=w.at';have L:Tryz.prog.underlying 3=some (.int .i64):=Tryz.underlying3;have M:d.size=g8.length:=by have:=Zj List.length l;simpa using this
 have N:∀n:Int,aJ n->(Lit.int .i64 n).wf=true:=λn i=>by unfold aJ at i;simp[Lit.wf,IntKind.min,IntKind.max,IntKind.signed,IntKind.bits];omega
 have A:∀P∈d.toList,∃n,P.key=Value.int .i64 n/\aJ n:=λP e=>by
  have O:(P.key,P.val)∈g8.map (λf=>(Value.int .i64 f.1,f.2)):=by rw[<-l];exact Xk.2 ⟨P,e,rfl⟩
  obtain⟨f,Q,R⟩:=Xk.1 O;exact⟨f.1,(Prod.mk.inj R).1.symm,H f Q⟩
 have B:∀P∈d.toList,∀n,P.key=Value.int .i64 n->aJ n->WideElems.rd ZP 3 (λ_=>some ((.nil:DataW Unit),[])) P=some (.int .i64 n,.nil):=λP _ n i j=>by
  simp[WideElems.rd,i,Maps.keyOf_int_mk L (N n j)]
 have S:WideElems.Fit ZP 3 (λ_=>some ((.nil:DataW Unit),[])) d h:=by
  refine⟨by unfold maxLen;omega,⟨J,K,?_⟩,λP e=>?_⟩
  ·have:d.toList.map (·.key)=(g8.map (·.1)).map (Value.int .i64):=by
    have:=Zj (List.map (λq:Value×Value=>q.1)) l;simpa[Function.comp_def]using this
   rw[this];exact List.pairwise_map.2 (List.Pairwise.imp (λT=>by simpa using T) w.tidy)
  ·obtain⟨n,i,j⟩:=A P e
   exact⟨_,B P e n i j⟩
 have U:b.ownsMap ZP 3 (λ_=>some ((.nil:DataW Unit),[])) a d.size (.map ((d.toList.map (WideElems.rg ZP 3 (λ_=>some ((.nil:DataW Unit),[])))).foldr DataW.insert [])):=
  ⟨d,h,I,S,Q4 _,rfl⟩
 have C:Maps.size (.map ((d.toList.map (WideElems.rg ZP 3 (λ_=>some ((.nil:DataW Unit),[])))).foldr DataW.insert []))=g8.length:=by
  show(List.foldr DataW.insert [] _).length=_;rw[(WideShapes.sorted_perm _).length_eq];simp[M]
 have V:(intKeys (.map ((d.toList.map (WideElems.rg ZP 3 (λ_=>some ((.nil:DataW Unit),[])))).foldr DataW.insert []))).Perm (g8.map (·.1)):=by
  refine(List.Perm.map (λf:Lit×DataW Unit=>Go.intOf f.1) (WideShapes.sorted_perm _)).trans ?_;have:(d.toList.map (WideElems.rg ZP 3 (λ_=>some ((.nil:DataW Unit),[])))).map (λf=>Go.intOf f.1)=g8.map (·.1):=by
   have W:d.toList.map (λP=>match P.key with| .int _ n=>n|_=>0)=g8.map (·.1):=by
    have:=Zj (List.map (λq:Value×Value=>match q.1 with| .int _ n=>n|_=>0)) l;simpa[Function.comp_def]using this
   rw[<-W,List.map_map];refine List.map_congr_left λP e=>?_;obtain⟨n,i,j⟩:=A P e;simp[WideElems.rg,B P e n i j,i,Go.intOf]
  rw[this]
 have X:SeqGives Fence.wide 1 ZP 250 #[ZL c] encZ (λk=>k.Perm (intKeys _)) (Maps.size _) b:=
  AnyZI.keys_gives (ρ:=Tryz.Fk) {Tryz.Wo with} Fence.wide _ trivial rfl oM c a d.size _ b (ax y) (ae y rfl) U
 have Y:=AnyZI.sorted_in Tryz.Tq Fence.wide 4 trivial trivial trivial trivial rfl oM (Tryz.Ve _) (enters_of Tryz.func249 kR rfl) 250 #[ZL c] trivial
  (enters_of Tryz.func250 kR rfl) _ _ (by rw[C];unfold maxLen;omega) (by rw[C];exact x) b X
 refine((callsIn_wide (n:=4)).1 Y).mono ?_;rintro P z ⟨p,k,rfl,Z,m,a5,r⟩;have E:k.mergeSort (λn a0=>decide (n<=a0))=vU (g8.map (·.1)):=mergeSort_of_perm_i (Z.trans V);have a6:k.length=(vU (g8.map (·.1))).length:=by rw[<-E];simp
 rw[E]at m;have hv:∃s t,p= .slice s k.length t:=by
  rcases m.2 with⟨rfl,h0⟩|⟨g',u,v,rfl,_⟩
  ·exact⟨none,0,by rw[h0]⟩
  ·exact⟨_,_,rfl⟩
 obtain⟨s,t,rfl⟩:=hv;refine Ok.mk ⟨s,_,t,rfl,⟨ownsRow_base_a m (Qj _)⟩,ak.HL r,λa1 o=>?_⟩;rcases m.2 with⟨e,_⟩|⟨g',u,v,e,a7,_⟩
 ·simp only[XX]at e
  rw[e.1]at o;cases o
 ·simp only[XX]at e
  rw[e.1]at o;simp only[aD,Q1]at o;omega
end
section
open Go.ar
structure iR where
 cP:Int
 asked:List (Int×Int)
 heard:List (Int×List Int)
 deriving DecidableEq
def XH(n:Value)(P:Int):Prop:=n= ZH P
def OP(d:World)(e:ZN)(f:Value)(a:List Int):Prop:=
 ∃n P b,f= .slice n P b/\Own d 3 1 n P b (ints a)/\P*8<=aK/\(∀g∈a,aJ g)/\∀c,aD n=some c->e c
def OP.af{S b F':ZN}{a e:World}{f:Value}{g:List Int}(c:OP a b f g)(l:ak S a e)(m:∀n,b n->n<a.heap.size->(∃h,a.heap[n]? =some h/\∀i j,h≠.map i j)->¬S n)(o:∀n,b n->F' n):OP e F' f g:=by
 obtain⟨p,q,r,rfl,d,P,s,k⟩:=c;refine⟨p,q,r,rfl,d.af l (cZ.2 λn P=>?_),P,s,λn P=>o n (k n P)⟩;refine m n (k n P) (d.lt P) ?_;rcases d.cases with⟨rfl,_⟩|⟨v,t,rfl,u,_⟩
 ·cases P
 ·simp only[aD,Q1]at P
  subst P;exact⟨_,u,λi j c=>by cases c⟩
structure dL (w:World) (p:Nat) (F:ZN) (T:iR):Prop where
 body:∃ra rh la lh,w.heap[p]? =some (.cells #[ZH T.cP,.map (some ra),.map (some rh)] 151 (0,0))/\bJ w ra (Value.int .i64) la/\bJ w rh (Value.int .i64) lh/\
  fu XH la T.asked/\fu (OP w F) lh T.heard/\F ra/\F rh/\ra≠rh
 self:F p
 aC:∀b,F b->b<w.heap.size
 JS:Tidy T.asked
 sS:∀q∈T.asked,aJ q.1
variable{o:Array Value}{K:Bool}{t:ZT}{B T b0 e m:Int}{h7:List (Int×List Int)}{g8:List (Int×Value)}{b2 v:List Int}{a6 h8:List PanicEntry->ZU}{L:List aj}{a2:List bt}{E a c c1 i l:Nat}{f:ZN}{d d4 s:YQ}{h:Program}{M:Prop}{j:Type}{g r:TypeId}{b k:World}{R:aN}{d6:aW}{O q:aj}{H:aw}{b4:eJ}{c2:iR}{d7:ly}
def dL.af{S e:ZN}(n:dL b a e c2)(c:ak S b k)(d:∀P,e P->¬S P):dL k a e c2:=by
 obtain⟨i,j,l,m,o,p,q,r,s,g,h,t⟩:=n.body;exact⟨⟨i,j,l,m,c.get o (d _ n.self),p.af c (d _ g),q.af c (d _ h),r,s.mono λv w u=>u.af c (λP f _ _=>d P f) (λ_ n=>n),g,h,t⟩,
  n.self,λP f=>Qk (n.aC P f) c.size,n.JS,n.sS⟩
def dL.ah(n:dL b a f c2)(P:ai b k):dL k a f c2:=n.af P λ_ _ n=>n
def kI:iK ZP 3 (Value.int .i64):=Vt Tryz.underlying3
def mA:lY ZP 148 3 3 (ZH 0):=⟨kR,kR⟩
def mH:lY ZP 149 3 42 (.slice none 0 0):=⟨kR,kR⟩
def Jw:YX 45 #[ZH e] b
  (Ok λh c=>∃d f,h= ZL d/\dL c d f ⟨e,[],[]⟩/\ai b c/\∀n,f n->b.heap.size<=n):=by
 refine Dq (PA.mk λi j q k=>PA.mk λl g r m=>PA.mk λo P s p=>Ok.mk ⟨l.heap.size,λn=>b.heap.size<=n/\n<o.heap.size,rfl,
  ⟨⟨b.heap.size,i.heap.size,[],[],p,bJ.new (P.get (g.get k id) id),bJ.new (P.get m id),trivial,trivial,oM,oM,oM⟩,oM,λn a=>a.2,by simp[Tidy],sM⟩,
  (j.ah g).ah P,λn a=>a.1⟩)
def JE(n:dL b a f c2)(t:aJ e):
  YX 82 #[ZL a,ZH e,ZH m] b
   (Ok λp i=>p= .tuple #[]/\dL i a f {c2 with asked:=aH c2.asked e m}/\ak f b i):=by
 obtain⟨P,u,K,v,j,q,w,x,y,r,z,s⟩:=n.body;have A:∃c d,b.heap[P]? =some (.map c d):=by obtain⟨c,d,n,_⟩:=q.at';exact⟨c,d,n⟩
 obtain⟨c,d,k⟩:=A;have B:a≠P:=by rintro rfl;rw[j]at k;cases k
 refine pB ⟨a,0,rfl,some P,ae j rfl,de mA kI q λi C g E=>Ok.mk ⟨rfl,⟨⟨P,u,_,v,g.get j B,C,w.af g (Ne.symm s),fu.aH (R:=XH) rfl x,?_,r,z,s⟩,n.self,?_,n.JS.aH _ _,?_⟩,g.mono ?_⟩⟩
 ·refine y.mono λp L F=>F.af g (λl _ _ h=>?_) (λ_ n=>n)
  rintro rfl;obtain⟨M,h,H⟩:=h;rw[k]at h;cases h;exact H _ _ rfl
 ·intro l I;rw[E];exact n.aC l I
 ·intro J o
  rcases fj o with rfl|o
  ·exact t
  ·exact n.sS J o
 ·rintro l _ rfl;exact r
def iR.all(P:iR)(n:Int)(a:List Int):List Int:=jY ((aF P.heard n).getD []) a
def Hs(P n:List Int):Bool:=kD P n==0||kD P n==2
def iR.ends(a:iR)(n:Int)(b P:List Int):Bool:=(aF a.asked n).isSome&&Hs (a.all n b) P
def iR.ug(P:iR)(n:Int)(b a:List Int):iR:=
 {P with heard:=aH P.heard n (P.all n b),asked:=if P.ends n b a then bY P.asked n else P.asked}
def CB(a:∀b∈v,aJ b)(n:Int):aJ (fD v n):=by
 unfold fD;split
 ·unfold aJ;omega
 ·by_cases P:n.toNat<v.length
  ·have:=a v[n.toNat] (XY P)
   simp only[List.getD,Qq P,Option.getD_some];unfold aJ at*;omega
  ·have:v[n.toNat]? =none:=by simp;omega
   simp only[List.getD,this,Option.getD_none];unfold aJ;omega
def EZ(a:∀n∈v,aJ n)(b:∀n∈b2,aJ n):∀n∈jY v b2,aJ n:=by
 intro n c;obtain⟨P,_,rfl⟩:=Xk.1 c;have d:=CB a P;have e:=CB b P;unfold aJ at*;omega
def Ht(n P:List Int):(jY n P).length=max n.length P.length:=sR _ _ _
def dL.Tk(i:fu (OP b f) g8 h7)(n:Int):
  ∃P a c,(aF g8 n).getD (.slice none 0 0)= .slice P a c/\Ints b P a ((aF h7 n).getD [])/\a*8<=aK/\∀g,aD P=some g->f g:=by
 rcases i.aF n with⟨d,e⟩|⟨m,o,d,e,P,a,c,rfl,j,h,k,l⟩
 ·rw[d,e];exact⟨none,0,0,rfl,Ints.nil b,by simp[aK],by simp[aD]⟩
 ·rw[d,e];exact⟨P,a,c,rfl,j.ints h k,h,l⟩
def Js(n:dL b a f c2)(L:Ints b d c v)(hy:Ints b s i b2)(W:b2≠[]->oW f s):
  YX 120 #[ZL a,ZH e,.slice d c l,.slice s i E] b
   (Ok λr q=>∃F',r= .bool (c2.ends e v b2)/\dL q a F' (c2.ug e v b2)/\bB f b F' q):=by
 obtain⟨p,u,F,lh,H,y,X,M,h5,Y,N,O⟩:=n.body;obtain⟨k,m,Q⟩:∃k m,b.heap[u]? =some (.map k m):=by obtain⟨k,m,n,_⟩:=X.at';exact⟨k,m,n⟩
 obtain⟨c9,d0,a6⟩:∃k m,b.heap[p]? =some (.map k m):=by obtain⟨k,m,n,_⟩:=y.at';exact⟨k,m,n⟩
 have b6:a≠u:=by rintro rfl;rw[H]at Q;cases Q
 have b7:a≠p:=by rintro rfl;rw[H]at a6;cases a6
 obtain⟨ha,hn,hc,hg,R,hB,hF⟩:=dL.Tk h5 e;refine pC ⟨a,0,rfl,some u,ae H rfl,Ag mH kI X ⟨ha,hn,hc,hg,PC.ok (Bb R L) ?_⟩⟩;rintro _ w1 ⟨w,z,S,rfl,Z,t,a7⟩;have b8:z=(c2.all e v).length:=by have:=Z.length;rw[js,Nat.mul_one]at this;exact this.symm
 have a8:z*8<=aK:=by
  rw[b8];unfold iR.all;rw[Ht];have:=R.len;have:=R.ef;have:=L.len;have:=L.ef;unfold aK at*;omega
 have a9:∀b9∈c2.all e v,aJ b9:=EZ R.Uc L.Uc;refine⟨w,z,S,rfl,a,0,rfl,some u,ae (t.get H id) rfl,de mH kI (X.af t id) λh b0 A c0=>?_⟩;have I:aD w≠some u:=λj=>by have:=a7 _ j;have:=ax Q;omega
 have b1:Own h 3 1 w z S (ints (c2.all e v)):=Z.af A (cZ.2 λs W=>by rintro rfl;exact I W);have c1:Ints h s i b2:=(hy.ah t).HM A λc3 a0 hq=>by rintro rfl;exact W c3 a0 hq N
 refine PC.ok (Nc (b1.ints a8 a9) c1) ?_;rintro _ _ ⟨rfl,rfl⟩;have T:h.heap[a]? =some (.cells #[ZH c2.cP,.map (some p),.map (some u)] 151 (0,0)):=A.get (t.get H id) b6;have U:bJ h p (Value.int .i64) F:=(y.af t id).af A O;refine⟨_,rfl,?_⟩
 let F':ZN:=λP=>f P\/(b.heap.size<=P/\P<w1.heap.size)
 have a1:bB f b F' h:=⟨(t.af (S:=f)).trans A (λ_ _ n=>n) (by rintro P _ rfl;exact N),λP o=>o.imp id (·.1)⟩
 have b3:fu (OP h F') (aH lh e (.slice w z S)) (aH c2.heard e (c2.all e v)):=by
  refine fu.aH ⟨w,z,S,rfl,b1,a8,a9,λP o=>.inr ⟨a7 P o,Z.lt o⟩⟩ (h5.mono λr ys J=>?_);refine(J.af t (F':=f) (λ_ _ _ _ n=>n) (λ_ n=>n)).af A (λP _ _ g=>?_) (λ_ n=>.inl n);rintro rfl;obtain⟨c4,g,I⟩:=g;rw[t.get Q id]at g;cases g;exact I _ _ rfl
 have b4:∀P,F' P->P<h.heap.size:=λP o=>by
  rw[c0];rcases o with o|o
  ·exact Qk (n.aC P o) t.size
  ·exact o.2
 have c5:dL h a F' {c2 with heard:=aH c2.heard e (c2.all e v)}:=
  ⟨⟨p,u,F,_,T,U,b0,M,b3,.inl Y,.inl N,O⟩,.inl n.self,b4,n.JS,n.sS⟩
 have a2:(aF F e).isSome=(aF c2.asked e).isSome:=by
  rcases M.aF e with⟨B,V⟩|⟨r,b5,B,V,_⟩<;>rw[B,V]<;>rfl
 have c6:∃P:Int,(aF F e).getD (ZH 0)= ZH P:=by
  rcases M.aF e with⟨B,V⟩|⟨r,b5,B,V,J⟩
  ·rw[B];exact⟨0,rfl⟩
  ·rw[B];exact⟨b5,J⟩
 obtain⟨k0,c7⟩:=c6;have no:c2.ends e v b2=false->Ok (λr q=>∃F',r= .bool (c2.ends e v b2)/\dL q a F' (c2.ug e v b2)/\bB f b F' q) (.returned (.bool false)) h:=λj=>
  Ok.mk ⟨F',by rw[j],by unfold iR.ug;rw[j];exact c5,a1⟩
 have a3:∀x,c2.ends e v b2=true->bJ x p (Value.int .i64) (bY F e)->ak (·=p) h x->x.heap.size=h.heap.size->
   Ok (λr q=>∃F',r= .bool (c2.ends e v b2)/\dL q a F' (c2.ug e v b2)/\bB f b F' q) (.returned (.bool true)) x:=λx j hm C a5=>by
  obtain⟨d1,d2,c8⟩:∃k m,h.heap[p]? =some (.map k m):=by obtain⟨k,m,n,_⟩:=U.at';exact⟨k,m,n⟩
  refine Ok.mk ⟨F',by rw[j],?_,a1.af.trans C (λ_ _ n=>n) (by rintro P _ rfl;exact Y),a1.new⟩;unfold iR.ug;rw[j];refine⟨⟨p,u,_,_,C.get T b7,hm,b0.af C (Ne.symm O),M.bY,?_,.inl Y,.inl N,O⟩,.inl n.self,λP o=>by rw[a5];exact b4 P o,n.JS.bY e,λa0 hq=>n.sS a0 (gu hq)⟩;refine b3.mono λr ys J=>J.af C (λP _ _ g=>?_) (λ_ n=>n);rintro rfl;obtain⟨c4,g,I⟩:=g;rw[c8]at g;cases g;exact I _ _ rfl
 refine⟨λq=>h=q/\c2.ends e v b2=true,⟨a,0,rfl,some p,ae T rfl,je mA kI U ?_⟩,?_⟩
 rotate_left
 ·rintro _ _ ⟨rfl,j⟩
  exact⟨a,0,rfl,some p,ae T rfl,Lb mA kI U λx hm C a5=>a3 x j hm C a5⟩
 rw[c7];refine⟨k0,_,rfl,al.mk (λg=>?_) (λg=>al.mk (λh0=>al.mk (λy=>?_) (λy=>?_)) (λh0=>?_))⟩
 ·refine no ?_
  have:(aF c2.asked e).isSome=false:=by rw[<-a2];simpa using g
  simp[iR.ends,this]
 ·refine no ?_
  have w:(kD (c2.all e v) b2==0)=false:=by simpa[bne]using h0
  have K:(kD (c2.all e v) b2==2)=false:=by simpa[bne]using y
  simp[iR.ends,Hs,w,K]
 ·have j:c2.ends e v b2=true:=by
   have a4:(aF c2.asked e).isSome=true:=by rw[<-a2];simpa using g
   have K:(kD (c2.all e v) b2==2)=true:=by simpa[bne]using y
   simp[iR.ends,Hs,a4,K]
  exact⟨rfl,j⟩
 ·have j:c2.ends e v b2=true:=by
   have a4:(aF c2.asked e).isSome=true:=by rw[<-a2];simpa using g
   have K:(kD (c2.all e v) b2==0)=true:=by simpa[bne]using h0
   simp[iR.ends,Hs,a4,K]
  exact⟨rfl,j⟩
def iR.open(n:iR):List Int:=vU (n.asked.map (·.1))
def L_(i:dL b a f c2)(c:c2.asked.length*8<=aK):
  YX 123 #[ZL a] b (Ok (Hu b 3 c2.open)):=by
 obtain⟨j,C,p,E,q,r,F,d,H,I,J,K⟩:=i.body;refine qy ⟨a,0,rfl,some j,ae q rfl,PC.ok (φ:=λs e=>s= .func (.func 250) #[] #[ZL b.heap.size]/\ai b e/\e.heap.size=b.heap.size+1/\
  e.heap[b.heap.size]? =some (.cells #[.map (some j)] 148 (0,0))) (iM (PA.mk λt n k g=>Ok.mk ⟨rfl,n,k,g⟩)) ?_⟩
 rintro _ t ⟨rfl,n,k,g⟩;have u:∀P∈p,aJ P.1:=by
  intro P v;have:P.1∈c2.asked.map (·.1):=by rw[<-d.keys];exact Xk.2 ⟨P,v,rfl⟩
  obtain⟨w,h,x⟩:=Xk.1 this;rw[<-x];exact i.sS w h
 refine⟨_,rfl,PC.ok (z_ (r.ah n) u (by rw[d.length];exact c) g) ?_⟩;rintro _ L ⟨l,m,o,rfl,y,z,A⟩;refine⟨l,m,o,rfl,Ok.mk ⟨l,m,o,rfl,?_,n.ah z,λB c=>by have:=A B c;omega⟩⟩;unfold iR.open;rw[<-d.keys];exact y
def Ju(c:dL b a f c2):
  YX 85 #[ZL a] b (Ok λt k=>t= .tuple #[]/\dL k a f ⟨c2.cP,[],[]⟩/\ak f b k):=by
 obtain⟨e,g,C,E,d,l,m,F,H,o,p,i⟩:=c.body;obtain⟨n,P,q⟩:∃n P,b.heap[g]? =some (.map n P):=by obtain⟨n,P,c,_⟩:=m.at';exact⟨n,P,c⟩
 obtain⟨I,J,r⟩:∃n P,b.heap[e]? =some (.map n P):=by obtain⟨n,P,c,_⟩:=l.at';exact⟨n,P,c⟩
 have u:a≠g:=by rintro rfl;rw[d]at q;cases q
 have s:a≠e:=by rintro rfl;rw[d]at r;cases r
 refine pD ⟨a,0,rfl,some e,ae d rfl,Jh mA l λK v h w=>⟨a,0,rfl,some g,ae (h.get d s) rfl,Jh mH (m.af h (Ne.symm i)) λL x j y=>Ok.mk ⟨rfl,
  ⟨⟨e,g,[],[],j.get (h.get d s) u,v.af j i,x,trivial,trivial,o,p,i⟩,c.self,λz A=>by rw[y,w];exact c.aC z A,by simp[Tidy],sM⟩,?_⟩⟩⟩
 exact h.trans j (by rintro B _ rfl;exact o) (by rintro B _ rfl;exact p)
def fT(b P:Int)(a:List Int×List (Int×Int))(n:Int):List Int×List (Int×Int):=
 if ZG .i64 (P-(aF a.2 n).getD 0)>=b then(a.1++[n],aH a.2 n P)else a
def iR.iA(n:iR)(P:Int)(a:Nat):List Int×List (Int×Int):=(n.open.take a).foldl (fT n.cP P) ([],n.asked)
def iR.due(P:iR)(n:Int):List Int:=(P.iA n P.open.length).1
def iR.Lh(n:iR)(P:Int):iR:={n with asked:=(n.iA P n.open.length).2}
def iR.Ma(P:iR)(n:Int)(b:P.open[a]? =some e):P.iA n (a+1)=fT P.cP n (P.iA n a) e:=by
 unfold iR.iA;rw[Qw,b];simp
def OI(g:dL b a f c2)(P:c2.asked.length*8<=aK):
  YX 77 #[ZL a,ZH e] b
   (Ok λJ L=>∃M a4 a5,J= .slice M a4 a5/\Own L 3 1 M a4 a5 (ints (c2.due e))/\dL L a f (c2.Lh e)/\ak f b L/\∀n,aD M=some n->b.heap.size<=n):=by
 refine sg (PC.ok (L_ g P) ?_);rintro _ N ⟨A,k,lc,rfl,l,s,hn⟩;have b2:∀d∈c2.open,aJ d:=by
  intro d B;have:d∈c2.asked.map (·.1):=(List.mergeSort_perm _ _).mem_iff.1 B;obtain⟨t,u,rfl⟩:=Xk.1 this;exact g.sS t u
 have O:k=c2.open.length:=by have:=l.length;rw[js,Nat.mul_one]at this;exact this.symm
 have b3:c2.open.length=c2.asked.length:=by simp[iR.open,vU]
 have b4:k*8<=aK:=by rw[O,b3];exact P
 have hL:Ints N A k c2.open:=l.ints b4 b2;have b5:oW f A:=cZ.2 λn P Q=>by have:=hn n P;have:=g.aC n Q;omega
 unfold aK at P;have d2:oW f none:=oW.none;refine⟨A,k,lc,rfl,λa6 v w R i m=>∃c:Nat,i=c/\c<=k/\a6=k-c/\Own m 3 1 v w R (ints (c2.iA e c).1)/\w<=c/\dL m a f {c2 with asked:=(c2.iA e c).2}/\ak f b m/\Ints m A k c2.open/\N.heap.size<=m.heap.size/\
   (∀n,aD v=some n->N.heap.size<=n),⟨_,0,rfl,Qj _,rfl,Own.nil _ _ _,Qj _,g.ah s,s.af,hL,Q4 _,by simp[aD]⟩,?_⟩
 rintro a6 v w R i _ m ⟨c,rfl,d3,rfl,S,d4,C,T,U,b6,p⟩;refine al.mk (λx=>?_) (λx=>?_)
 ·have x:=XV x
  obtain⟨n,V,d,rfl,d5,B,b7,hc⟩:=U.at (i:=(c:Int)) oM oM;rw[Qx]at B;have a7:=c2.Ma e B;obtain⟨ra,rh,W,lh,t1,t2,t3,t4,t5,t6,t7,t8⟩:=C.body;refine⟨n,V,rfl,oM,oM,d,hc,a,0,rfl,some ra,ae t1 rfl,?_⟩;have b8:(aF W d).getD (ZH 0)= ZH ((aF (c2.iA e c).2 d).getD 0):=by
   rcases t4.aF d with⟨X,Y⟩|⟨J,d6,X,Y,Z⟩
   ·rw[X,Y];rfl
   ·rw[X,Y];exact Z
  refine⟨(aF (c2.iA e c).2 d).getD 0,λb9=>?_,a,0,rfl,c2.cP,ae t1 rfl,λw3 hd=>?_⟩
  ·have:=dX mA kI (t2.af (ak.drewN (S:=λ_=>False) m b9) id) d false
   simpa[b8]using this
  have h:ai m w3:=hd.af;refine al.mk (λo=>?_) (λo=>?_)
  ·have o:=XV o
   refine PA.mk λw4 q s4 g4=>?_;refine Mm TZ ((S.ah h).ah q) g4 (by unfold aK at*;omega) λa' c' w5 a8 E K=>?_;refine⟨a',w+1,c',rfl,a,0,rfl,?_⟩;have c0:∀n,f n->¬(some n=aD v):=λn Q he=>by have:=p n he.symm;have:=g.aC n Q;have:=s.size;omega
   have y:dL w5 a f {c2 with asked:=(c2.iA e c).2}:=((C.ah h).ah q).af E c0;obtain⟨j,a0,a9,a1,a2,b0,c1,c3,c4,a3,c5,b1⟩:=y.body;refine⟨some j,ae a2 rfl,de mA kI b0 λw6 c6 r c7=>?_⟩;obtain⟨F,H,I⟩:∃F H,w5.heap[j]? =some (.map F H):=by obtain⟨F,H,g,_⟩:=b0.at';exact⟨F,H,g⟩
   have c8:a≠j:=by rintro rfl;rw[a2]at I;cases I
   have c9:dL w6 a f {c2 with asked:=aH (c2.iA e c).2 d e}:=by
    refine⟨⟨j,a0,_,a1,r.get a2 c8,c6,c1.af r (Ne.symm b1),fu.aH (R:=XH) rfl c3,?_,a3,c5,b1⟩,y.self,λn P=>by rw[c7];exact y.aC n P,y.JS.aH _ _,?_⟩
    ·refine c4.mono λJ ys Z=>Z.af r (λt _ _ l=>?_) (λ_ g=>g)
     rintro rfl;obtain⟨d7,l,d0⟩:=l;rw[I]at l;cases l;exact d0 _ _ rfl
    ·intro t u
     rcases fj u with rfl|u
     ·exact b7
     ·exact y.sS t u
   have z:c2.iA e (c+1)=((c2.iA e c).1++[d],aH (c2.iA e c).2 d e):=by rw[a7];unfold fT;rw[Zx o]
   have d1:∀n,aD a'=some n->n≠j:=λn P=>by
    rintro rfl;exact a8.Ud I P
   refine⟨_,?_,c+1,?_,oM,rfl,?_,oM,by rw[z];exact c9,?_,?_,?_,?_⟩
   ·omega
   ·rw[wrap_i64 (by unfold aJ;omega)];simp
   ·rw[z];exact a8.af r (cZ.2 d1)
   ·refine(((T.ah h).ah q).new E ?_).trans r (λ_ _ g=>g) (by rintro t _ rfl;exact a3)
    intro n P;right;have:=p n P.symm;have:=s.size;omega
   ·refine(((U.ah h).ah q).af E (cZ.2 λn P he=>?_)).af r (cZ.2 λn P=>?_)
    ·have:=p n he.symm;have:=l.lt P;omega
    ·rintro rfl;exact cZ.1 b5 n P a3
   ·have:=h.size;have:=q.size;have:=E.size;omega
   ·intro n P
    rcases K with K|K
    ·exact p n (K▸P)
    ·rw[K]at P;cases P;have:=h.size;have:=q.size;omega
  ·have o:=Xy o
   have z:c2.iA e (c+1)=c2.iA e c:=by rw[a7];unfold fT;rw[Zq o]
   refine⟨_,?_,c+1,?_,oM,rfl,by rw[z];exact S.ah h,oM,by rw[z];exact C.ah h,T.ah h,U.ah h,Xx b6 h.size,p⟩
   ·omega
   ·rw[wrap_i64 (by unfold aJ;omega)];simp
 ·have x:=Xy x
  obtain rfl:c=k:=oM
  refine Ok.mk ⟨v,w,R,rfl,?_,?_,T,λn P=>Xx s.size (p n P)⟩
  ·unfold iR.due;rw[<-O];exact S
  ·unfold iR.Lh;rw[<-O];exact C
structure bG where
 ay:Int
 vE:Int
 bU:Int
 chunk:Int
 buffer:Int
 cP:Int
 every:Int
 start:Int
 decl:aN
structure aR where
 S:aw
 D:an
 log:Option eJ
 waits:List aj
 dO:iR
def fq(n:bG)(P:Int):Bool:=
 within n.ay 1 64&&within P 0 (n.ay-1)&&within n.vE 64 262144&&decide (n.bU>=1)&&decide (n.every>=1)&&within n.chunk 1 32&&within n.buffer 1 256&&within n.cP 1 1048576&&decide (n.start>=0)
section
variable (c:bG) (self:Int)
def iG(P:aR):Int×aR:=
 let n:=eK P.D c.bU
 if n.no≠0 then(n.no,{P with D:=n.D,log:=none,S:=⟨c.ay.toNat,[]⟩})
 else(0,{P with D:=n.D,log:=some n.V,S:=(⟨c.ay.toNat,[]⟩:aw).fN n.out})
def Hi:Int×aR:=iG c ⟨⟨c.ay.toNat,[]⟩,UH c.vE.toNat,none,[],⟨c.cP,[],[]⟩⟩
def fg(n:aw)(P:List aj):aw:=(⟨c.ay.toNat,[]⟩:aw).fN (n.l++P)
def fW(P:aR)(b:List aj):Int×aR:=match P.log with
 |none=>(15,P)
 |some d=>
  let n:=bu d P.D b
  if n.1≠0 then(n.1,{P with log:=some n.2.1,D:=n.2.2})else
  let a:=n.2.2.sync n.2.1.last
  if a.1≠0 then(a.1,{P with log:=some n.2.1,D:=a.2})else
  (0,{P with log:=some n.2.1,D:=a.2,S:=fg c P.S b})
def et(n:aR)(b:ly):Int×(Int×Int)×aR:=match n.log with
 |none=>(15,(0,0),n)
 |some _=>
  let P:=rq c.decl n.S (cz c.decl n.S.l) self c.start b
  if P.2.2≠0 then(P.2.2,(0,0),n)else
  if P.2.1 then(let a:=fW c n [P.1];if a.1≠0 then(a.1,(0,0),a.2)else(0,aZ P.1,a.2))
  else(0,aZ P.1,n)
def eV(P:aR)(n a:Int):List bt×aR:=
 if n<0\/n>=c.ay\/n=self then([],P)else([kj P.S self n],{P with dO:={P.dO with asked:=aH P.dO.asked n a}})
def iu(a:aR)(n:Int):List bt×aR:=((a.dO.due n).map λP=>kj a.S self P,{a with dO:=a.dO.Lh n})
def iY(n:Nat):List aj->aw->List aj->List aj->aw×List aj×List aj
 |[],a,P,b=>(a,P,b)
 |e::c,a,P,b=>
  if(a.add e).1=0 then iY n c (a.add e).2 (P++[e]) b
  else if(a.add e).1=16 then iY n c a P b
  else iY n c a P (fl n b e).2
def eN:List aj->aw->List aj->aw×List aj
 |[],P,n=>(P,n)
 |e::a,P,n=>if(P.add e).1=0 then eN a (P.add e).2 (n++[e])else eN a (P.add e).2 n
def vY:Nat->aw->List aj->List aj->List aj×List aj
 |0,a,n,b=>(n,b)
 |k+1,a,n,b=>
  let P:=bC a b
  if P.1=[]then(n,P.2)else
  let c:=eN P.1 a n
  vY k c.1 c.2 P.2
def jh(P:aR)(a:List aj):List aj×List aj:=
 let n:=iY c.buffer.toNat a (fg c P.S []) [] P.waits
 vY (n.2.2.length+1) n.1 n.2.1 n.2.2
def mf(n:aR)(a:bt):List bt×Int×aR:=
 let b:=jh c n a.events
 let n:={n with waits:=b.2}
 if b.1=[]then([zZ n.S self a.bq],0,n)else
 let P:=fW c n b.1
 if P.1≠0 then([],P.1,{P.2 with waits:=[]})else([zZ P.2.S self a.bq],0,P.2)
def bD(n:aR)(P:bt):List bt×Int×aR:=match n.log with
 |none=>([],15,n)
 |some _=>
  let no:=fH P c.ay.toNat c.chunk
  if no≠0 then([],no,n)else
  if P.lZ≠self then([],1,n)else
  if P.kind=3 then mf c self n P else
  let n:={n with dO:=n.dO.ug P.bq P.vec n.S.vec}
  if P.kind≠4 then(kf n.S self P c.chunk,0,n)else
  let a:=n.S.missing P.vec c.chunk
  if a=[]then([],0,n)else([⟨3,self,P.bq,[],a⟩],0,n)
def qo(n:aR)(P:Int):Int×aR:=iG c {n with D:=Bc (n.D.BO P),waits:=[],dO:=⟨n.dO.cP,[],[]⟩}
def eW(n:aR):Int×aR:=match n.log with
 |none=>(15,n)
 |some a=>
  let P:=cx a n.D n.S.l c.bU
  if P.no≠0 then(P.no,{n with D:=P.D})else(0,{n with D:=P.D,log:=some P.V})
end
def Bu:fL:=⟨[],[(3,[]),(7,[(9,.slice none 0 0)]),(11,[(9,.slice none 0 0)])],[],[],[]⟩
def Bv{w x D y:Nat}(R:PA b (.cells #[.ii m,.ii B,.ii T,.slice s w x,.slice d4 D y] 127) λP=>(∃j:ZU,((rI P (ab_ b 0) λS=>al (S !=1) ((rI P (ab_ b 0) λU=>al (U !=2) (rt t ((.slice none 0 0)) P) (j P))) (j P)))/\∀(d8:Nat->Value) (k:World),j k->(∃l:YQ->Nat->Nat->ZU,((rS k (ab_ b (0+3)) λV W X=>PC_ 122 #[.pointer d,.slice V W X,.ii (if(if 32<b0 then 32 else b0)>1 then(if 32<b0 then 32 else b0)else 1)] k (kS_ λY z Z o=>al (decide ((z:Int)>0)) (PA o (.cells #[.ii 3,.ii 0,.ii 0,.slice none 0 0,.slice Y z Z] 127) λa3=>PR_ (ap_ 69 (.slice none 0 0) (.slice (some (ab_ o 0)) 1 1)) a3 (kS_ λa4 a5 a6 a7=>l a4 a5 a6 a7) (pV t)) (l none 0 0 o)) (pE t)))/\∀(a:YQ) (c:Nat) (f:Nat) (d9:Nat->Value) (G:World),l a c f G->PC_ 58 #[.pointer d] G (kS_ λp q r A=>(∃g:YQ->Nat->Nat->ZU,((rS A (ab_ b (0+3)) λa8 a9 a0=>PC_ 193 #[.slice a8 a9 a0,.slice p q r] A (kI_ λC n=>(rI n (ab_ b 0) λb1=>al (b1==1) (al (C==2) (PA n (.cells #[.ii 2,.ii 0,.ii 0,.slice p q r,.slice none 0 0] 127) λb2=>PR_ (ap_ 69 (.slice a c f) (.slice (some (ab_ n 0)) 1 1)) b2 (kS_ λb3 b4 b5 b6=>g b3 b4 b5 b6) (pV t)) (al (C==3) (PA n (.cells #[.ii 2,.ii 0,.ii 0,.slice p q r,.slice none 0 0] 127) λb7=>PR_ (ap_ 69 (.slice a c f) (.slice (some (ab_ n 0)) 1 1)) b7 (kS_ λb8 b9 c0 c1=>g b8 b9 c0 c1) (pV t)) (g a c f n))) (g a c f n))) (pE t)))/\∀(u:YQ) (i:Nat) (v:Nat) (e0:Nat->Value) (h:World),g u i v h->al ((i:Int)==0) ((rI h (ab_ b (0+1)) λc2=>PC_ 191 #[.pointer d,.ii e,.ii c2] h (λc3 E=>∃F H I J K L M N O,c3= .agg #[.ii F,.ii H,.ii I,.slice J K L,.slice M N O]/\PA E (.cells #[.ii F,.ii H,.ii I,.slice J K L,.slice M N O] 127) λc4=>PR_ (ap_ 69 (.slice u i v) (.slice (some (ab_ E 0)) 1 1)) c4 (kS_ λc5 c6 c7 Q=>(rI Q (ab_ b (0+1)) λc8=>PC_ 194 #[.ii e,.ii c8,.slice c5 c6 c7] Q (kS_ λc9 d0 d1 d2=>rt t ((.slice c9 d0 d1)) d2) (pE t))) (pV t)) (pE t))) ((rI h (ab_ b (0+1)) λd3=>PC_ 194 #[.ii e,.ii d3,.slice u i v] h (kS_ λa1 d5 d6 d7=>rt t ((.slice a1 d5 d6)) d7) (pE t))))) (pE t)))):YX 121 #[.pointer d,.ii e,.agg #[.ii m,.ii B,.ii T,.slice s w x,.slice d4 D y],.ii b0] b t:=DC Bu Tryz.func121 rfl R
def KR:fL:=⟨[(2,[(10,ZH 0)])],[],[],[],[]⟩
def KS(i:(∃f:Nat->Int->ZU,(∃P,f P 0 b)/\∀(P:Nat) (n:Int) (r:Nat->Value) (g:World),f P n g->al (decide (n<(a:Int))) ((ix_ d n a λj k=>PS g (ad j (k+Int.toNat n*5+1)) (.ii e) λl=>(ix_ d n a λo p=>PS l (ad o (p+Int.toNat n*5+2)) (.ii m) λq=>(∃h,h<P/\f h (ZG .i64 (n+1)) q)))) (rt t ((.slice d a c)) g))):YX 194 #[.ii e,.ii m,.slice d a c] b t:=DC KR Tryz.func194 rfl i
structure GI where
 m:bt
 va:YQ
 vn:Nat
 vc:Nat
 ea:YQ
 en:Nat
 ec:Nat
def EA:jJ GI:=flat 5 (λn=>cW n.m n.va n.vn n.vc n.ea n.en n.ec) (λ_=>True) (λ_=>rfl) (λa b P=>by
 simp only[cW,Q2,List.not_mem_nil,or_false]at P;rcases P with rfl|rfl|rfl|rfl|rfl<;>rfl)
def GI.In(P:World)(D:ZN)(n:GI):Prop:=Row aI 8 P D n.va n.vn n.m.vec/\Row jF 96 P D n.ea n.en n.m.events
def yy:jV ZP 69 127 EA.k 72:=⟨kR,kR,dC⟩
def bd(b:World)(f:List bt)(g:Value)(a:World):Prop:=
 ∃(P:YQ) (d e:Nat) (c:List GI) (D:ZN),g= .slice P d e/\aM EA 127 (λn=>aD P=some n) a P d e c/\c.map (·.m)=f/\(∀n∈c,n.In a D)/\(∀n,D n->b.heap.size<=n/\n<a.heap.size/\aD P≠some n)/\(∀n,aD P=some n->b.heap.size<=n)/\ai b a
section
variable {w w':World} {p:Nat} {F D:ZN} {S:aw} {a:YQ} {n c:Nat}
def GI.In.af{n:GI}(P:n.In w D)(a:ak f w w')(b:∀n,D n->¬f n):n.In w' D:=⟨P.1.af a b,P.2.af a b⟩
def GI.In.mono{n:GI}(P:n.In w D)(a:∀n,D n->f n):n.In w f:=⟨P.1.mono a,P.2.mono a⟩
def c_{n:jJ j}{bytes:Nat}(w:World)(D:ZN):Row n bytes w D none 0 []:=⟨rfl,sM,λa b P=>by simp at P⟩
def bd.nil(w:World):bd w [] (.slice none 0 0) w:=⟨none,0,0,[],λ_=>False,rfl,(aM.nil w).mono (λP n=>n.elim) (λP n=>(by cases n)),rfl,sM,λP n=>n.elim,λP n=>(by cases n),ak.refl _⟩
def bd.ah{h:Value}(f:bd b a2 h w)(e:ai w w'):bd b a2 h w':=by
 obtain⟨a,n,c,i,D,j,k,l,m,g,o,p⟩:=f;exact⟨a,n,c,i,D,j,k.ah e,l,λP d=>(m P d).af e λ_ _ f=>f,λP d=>⟨(g P d).1,by have:=e.size;have:=(g P d).2.1;omega,(g P d).2.2⟩,o,p.then e⟩
def bd.push(t:bd b a2 (.slice a n c) w)(K:jV h g 127 EA.k 72){m:bt}{j k l o x:Nat}{L:Nat×Nat}{E:ZN}(M:(⟨m,d,j,k,s,l,o⟩:GI).In w E)(y:∀P,E P->b.heap.size<=P/\P<w.heap.size/\aD a≠some P)(N:w.heap[x]? =some (.cells (cW m d j k s l o).toArray 127 L))(V:a2.length<=1000){z O:ZR}(u:∀f i w',bd b (a2++[m]) (.slice f (n+1) i) w'->ak (λP=>aD a=some P) w w'->z (.slice f (n+1) i) w'):
  aG h (Builtin.append_ #[g,g] r #[.slice a n c,.slice (ZM x) 1 1]) w z O:=by
 obtain⟨W,X,Y,v,D,Q,R,A,S,B,C,F⟩:=t
 cases Q
 have Z:v.length=a2.length:=by rw[<-A,Q8]
 refine eH (c:=EA) (x:=⟨m,d,j,k,s,l,o⟩) (D:=λ_=>False) R K N ⟨rfl,trivial⟩ (λP e=>e.elim) (by unfold aK;omega) (by unfold maxLen;omega) λf i w' F' p q T=>?_;have H:∀P,aD f=some P->aD a=some P\/w.heap.size<=P:=λP e=>(T P (p.self P e)).imp id λt=>t.resolve_left id;have a0:=q.size;have z7:=F.size;refine u f i w' ⟨f,n+1,i,v++[⟨m,d,j,k,s,l,o⟩],λP=>D P\/E P,rfl,(show aM EA 127 (λP=>aD f=some P) w' f (n+1) i (v++[⟨m,d,j,k,s,l,o⟩])from p.alone),by rw[Q3,A];rfl,λP e=>?_,λP e=>?_,λP e=>?_,F.new q λP e=>.inr (C P e)⟩ q
 ·rcases Q6.1 e with e|e
  ·exact((S P e).af q λP e=>(B P e).2.2).mono λP e=>.inl e
  ·simp at e;subst e
   exact(M.af q λP e=>(y P e).2.2).mono λP e=>.inr e
 ·have I:b.heap.size<=P/\P<w.heap.size/\aD a≠some P:=e.elim (B P) (y P)
  exact⟨I.1,oM,λU=>(H P U).elim I.2.2 oM⟩
 ·rcases H P e with J|J
  ·exact C P J
  ·omega
def Nf(z:bd b a2 (.slice a n c) w)(O:a2.length<=1000):
  YX 194 #[ZH e,ZH m,.slice a n c] w (Ok λA w'=>bd b (a2.map λo=>{o with bq:=e,lZ:=m}) A w'):=by
 obtain⟨Q,R,S,d,D,B,s,x,C,p,y,E⟩:=z
 cases B
 have T:d.length=a2.length:=by rw[<-x,Q8]
 have U:=s.len dC;obtain⟨g,j⟩:∃g:GI->GI,g=λf=>{f with m:={f.m with bq:=e,lZ:=m}}:=⟨_,rfl⟩
 refine KS ⟨λo h w'=>∃P:Nat,h=P/\P<=n/\o=n-P/\aM EA 127 (λf=>aD a=some f) w' a n c ((d.take P).map g++d.drop P)/\ak (λf=>aD a=some f) w w',⟨_,0,rfl,Qj _,rfl,by simpa using s,ak.refl _⟩,?_⟩;rintro o _ _ V ⟨P,rfl,W,rfl,t,q⟩;refine al.dec (λX=>?_) (λY=>?_)
 ·have r:d[P]? =some d[P]:=Qq oM
  have k:∃l,a=ZM l:=by
   obtain⟨cs,D,F,-⟩:=s.body;rcases F.cases with⟨_,Z,_,_⟩|⟨l,H,rfl,_⟩
   ·omega
   ·exact⟨l,rfl⟩
  obtain⟨l,k⟩:=k;have u:((d.take P).map g++d.drop P)[P]? =some d[P]:=by
   rw[X8 (by simp;omega)];simp[Qy,X2 (show P<=d.length by omega)]
  generalize d[P]=h at r u;have I:P<((d.take P).map g++d.drop P).length:=(Qv.1 u).1;refine⟨l,0,k,oM,oM,?_⟩;rw[Qx];refine aM.set (x':={h with m:={h.m with bq:=e}}) (j:=1) t u dC rfl k λa3 J K a4=>⟨l,0,k,oM,oM,?_⟩
  refine aM.set (x:={h with m:={h.m with bq:=e}}) (x':=g h) (j:=2) J (by rw[List.getElem?_set_self I]) dC (by rw[j];rfl) k λa5 v L a6=>⟨_,?_,P+1,aq oM,oM,rfl,?_,(q.then K).then L⟩
  ·omega
  ·rw[List.set_set]at v
   have M:((d.take P).map g++d.drop P).set P (g h)=(d.take (P+1)).map g++d.drop (P+1):=by
    have N:((d.take P).map g).length=P:=by simp;omega
    rw[Qw,r,Q3,XQ,List.set_append,Zq oM,N,Nat.sub_self,X4 (show P<d.length by omega)];rfl
   rw[M]at v;exact v
 ·obtain rfl:P=n:=oM
  rw[Qz oM,List.drop_eq_nil_of_le oM,List.append_nil]at t;refine Ok.mk ⟨a,P,c,d.map g,D,rfl,t,?_,λf i=>?_,λf i=>⟨(p f i).1,by have:=q.size;have:=(p f i).2.1;omega,(p f i).2.2⟩,y,E.new q λf i=>.inr (y f i)⟩
  ·rw[<-x,List.map_map,List.map_map,j];rfl
  ·obtain⟨h,r,rfl⟩:=Xk.1 i
   have:=(C h r).af q λf i=>(p f i).2.2;rw[j];exact this
end
section
variable {w w':World} {p:Nat} {F D E:ZN} {S:aw} {m:bt} {va ea:YQ} {vn vc en ec:Nat}
def bd.HM{a:Value}(e:bd b a2 a w)(c:ai w' b):bd w' a2 a w:=by
 obtain⟨f,g,h,i,D,j,k,l,m,d,o,p⟩:=e;have:=c.size;exact⟨f,g,h,i,D,j,k,l,m,λn P=>⟨by have:=(d n P).1;omega,(d n P).2⟩,λn P=>by have:=o n P;omega,c.then p⟩
def bd.len(n:bd b a2 (.slice d a c) w):a=a2.length:=by
 obtain⟨g,h,i,j,D,P,e,f,-⟩:=n
 cases P
 rw[e.len dC,<-f,Q8]
def bd.sl{n:Value}(P:bd b a2 n w):∃a c d,n= .slice a c d:=by
 obtain⟨f,g,h,i,D,e,-⟩:=P;exact⟨_,_,_,e⟩
def Jt(h:ck w p F S)(hl:S.l.length<=20000000)(Z:Row aI 8 w D va vn m.vec){b n:Int}:
  YX 121 #[ZL p,ZH b,iq m va vn vc ea en ec,ZH n] w (Ok (bd w (kf S b m n))):=by
 have hS:=h.1;have hN:=hS.n;refine Bv (PA.mk λc o g0 x=>⟨λw'=>c=w'/\(m.kind=1\/m.kind=2),⟨_,ae x rfl,al.dP (λq=>⟨_,ae x rfl,al.dP (λe=>Ok.mk ?_) (λe=>⟨rfl,.inr e⟩)⟩) (λq=>⟨rfl,.inl q⟩)⟩,?_⟩)
 ·unfold kf;rw[Zx ⟨q,e⟩];exact(bd.nil c).HM o
 rintro _ _ ⟨rfl,hk⟩;have b9:¬(m.kind≠1/\m.kind≠2):=oM
 obtain⟨s,K⟩:∃s,s=S.missing m.vec (max 1 (min n 32)):=⟨_,rfl⟩
 have b4:(if(if 32<n then 32 else n)>1 then(if 32<n then 32 else n)else 1)=max 1 (min n 32):=by split<;>split<;>omega
 obtain⟨f,E⟩:∃f:List bt,f=if 0<s.length then [⟨3,0,0,[],s⟩]else []:=⟨_,rfl⟩
 have g1:f.length<=1:=by rw[E];split<;>simp
 refine⟨λi j k w'=>bd c f (.slice i j k) w'/\ai c w',⟨_,_,_,ae x rfl,?_⟩,?_⟩
 ·rw[b4]
  refine PC.ok (yK (h.ah o) hl (Z.ah o)) ?_;rw[<-K];rintro _ g2 ⟨b7,n2,y,G,rfl,L,H,hG⟩;have g3:=L.len dC;have e1:=L.aC;refine⟨_,_,_,rfl,al.dec (λf5=>PA.mk λg4 M g5 e2=>?_) (λhz=>⟨?_,H⟩)⟩
  rotate_left
  ·rw[E,Zq oM]
   exact(bd.nil c).ah H
  have g6:s.length<=20000000:=by
   rw[K];unfold aw.missing;rw[Qy];have:=List.length_filter_le (λg:aj=>decide (max 0 (fD m.vec g.origin)<g.seq)) S.l;omega
  refine bd.push (m:=⟨3,0,0,[],s⟩) (E:=G) ((bd.nil c).ah (H.then M)) yy ⟨c_ _ _,(L.ah M).row dC (by unfold aK;omega)⟩ (λP a=>⟨by have:=hG P a;omega,by have:=e1 P a;omega,λg=>by cases g⟩) e2 sM λa' c' g7 c4 e3=>⟨_,_,_,rfl,?_,?_⟩
  ·rw[E,Zx oM];exact c4
  ·exact(H.then M).new e3 λP a=>(by cases a)
 rintro I on oc _ e4 ⟨N,O⟩;have a0:=o.then O;have e5:=O.size;refine PC.ok (lJ (h.ah a0)) ?_;rintro _ u ⟨a3,n3,c3,G3,rfl,c6,c7,c8⟩;have g8:=a0.size;have c9:=c6.aC;have d0:Row aI 8 u G3 a3 n3 S.vec:=c6.row dC (by rw[S.bN];unfold aK;omega);obtain⟨d,v⟩:∃d:List bt,d=if m.kind=1/\(kD m.vec S.vec=2\/kD m.vec S.vec=3)then [⟨2,0,0,S.vec,[]⟩]else []:=⟨_,rfl⟩
 have g9:d.length<=1:=by rw[v];split<;>simp
 have z:=O.then c7;have Q:∀P,aD I=some P->P<e4.heap.size:=λP a=>by
  obtain⟨a1,n1,t,a2,D,l,e,-⟩:=N
  cases l
  exact e.aC P a
 refine⟨_,_,_,rfl,λi j k w'=>bd c (f++d) (.slice i j k) w'/\w'.heap[w.heap.size]? =some (.cells (cW m va vn vc ea en ec).toArray 127 (0,0))/\ai c w',⟨_,_,_,ae (z.get x id) rfl,PC.ok (Nc ((Z.ah (o.then z)).tE) d0.tE) ?_⟩,?_⟩
 ·rintro _ _ ⟨rfl,rfl⟩
  have R:=z.get x id;have a4:=N.ah c7;have r:∀P,aD I=some P->c.heap.size<=P:=λP a=>by
   obtain⟨a1,n1,t,a2,D,l,e,A,h4,h5,T,h7⟩:=N
   cases l
   exact T P a
  have no:d=[]->bd c (f++d) (.slice I on oc) u/\u.heap[w.heap.size]? =some (.cells (cW m va vn vc ea en ec).toArray 127 (0,0))/\ai c u:=λa=>⟨by rw[a,List.append_nil];exact a4,R,z⟩
  have B:∀{ε:ZR} {U:YQ->Nat->Nat->ZU},d=[⟨2,0,0,S.vec,[]⟩]->(∀i j k w',bd c (f++d) (.slice i j k) w'/\w'.heap[w.heap.size]? =some (.cells (cW m va vn vc ea en ec).toArray 127 (0,0))/\ai c w'->U i j k w')->
    PA u (.cells #[ZH 2,ZH 0,ZH 0,.slice a3 n3 c3,.slice none 0 0] 127) λd1=>aG ZP (Builtin.append_ #[69,69] 69 #[.slice I on oc,.slice (ZM u.heap.size) 1 1]) d1 (λe6 d2=>∃(a5:YQ) (a6:Nat) (a7:Nat),e6= .slice a5 a6 a7/\U a5 a6 a7 d2) ε:=λ{ε U} a V=>by
   refine PA.mk λd1 J h8 e7=>bd.push (m:=⟨2,0,0,S.vec,[]⟩) (E:=G3) (a4.ah J) yy ⟨d0.ah J,c_ _ _⟩ (λP a=>⟨by have:=c8 P a;omega,by have:=c9 P a;omega,λg=>by have:=Q P g;have:=c8 P a;omega⟩) e7 oM λa' c' d2 d3 d4=>⟨_,_,_,rfl,V _ _ _ _ ⟨by rw[a];exact d3,d4.get (J.get R id) λg=>?_,?_⟩⟩
   ·have:=r _ g;omega
   ·exact(z.then J).new d4 λP a=>.inr (r P a)
  refine⟨_,rfl,_,ae R rfl,al.cX (λq=>al.cX (λe=>B (by rw[v,Zx ⟨q,.inl e⟩]) λi j k w' h=>h) (λe=>al.cX (λA=>B (by rw[v,Zx ⟨q,.inr A⟩]) λi j k w' h=>h) (λA=>no (by rw[v,Zq];rintro⟨-,h|h⟩;exact e h;exact A h)))) (λq=>no (by rw[v,Zq λh=>q h.1]))⟩
 rintro e8 h9 i0 _ e9 ⟨C,W,a8⟩;have d5:=o.then a8;have f2:=a8.size;have a9:=C.len;have f8:(f++d).length<=2:=by rw[QX];omega
 have b0:∀{X:List bt},(if(f++d).isEmpty then [zZ S b m.bq]else(f++d).map λb5=>{b5 with bq:=b,lZ:=m.bq})=X->kf S b m n=X:=λ{X} hq=>by
  rw[<-hq];unfold kf;rw[Zq b9,<-K];rw[E,v];have p1:(decide (kD m.vec S.vec=2\/kD m.vec S.vec=3))=decide (kD m.vec S.vec=2\/kD m.vec S.vec=3):=rfl
  by_cases t:0<s.length<;>by_cases y:m.kind=1/\(kD m.vec S.vec=2\/kD m.vec S.vec=3)
  ·simp[t,y]
  ·simp[t,y]
  ·simp[t,y]
  ·simp[t,y]
 refine al.cX (λh0=>⟨_,ae W rfl,PC.ok (Jj (h.ah d5)) ?_⟩) (λh0=>⟨_,ae W rfl,PC.ok (Nf C oM) ?_⟩)
 ·have l:f++d=[]:=QW oM
  rintro _ i1 ⟨b8,n5,c5,G5,rfl,d6,d7,d8⟩;have d9:=d6.aC;rw[l]at C;refine⟨_,_,_,_,_,_,_,_,_,rfl,PA.mk λi2 Y i3 f3=>?_⟩;have b1:∀P,aD e8=some P->c.heap.size<=P/\P<e9.heap.size:=λP a=>by
   obtain⟨a1,n1,t,a2,D,l,e,A,h4,h5,T,h7⟩:=C
   cases l
   exact⟨T P a,e.aC P a⟩
  refine bd.push (m:=zZ S b m.bq) (E:=G5) (C.ah (d8.then Y)) yy ⟨(d6.ah Y).row dC (by show S.vec.length*8<=aK;rw[S.bN];unfold aK;omega),c_ _ _⟩ (λP a=>⟨by have:=d7 P a;have:=d5.size;omega,by have:=d9 P a;omega,λg=>by have:=(b1 P g).2;have:=d7 P a;omega⟩) f3 sM λa' c' i4 e0 f4=>⟨_,_,_,rfl,_,ae (f4.get ((d8.then Y).get W id) λg=>by have:=(b1 _ g).1;omega) rfl,?_⟩
  refine PC.ok (Nf e0 sM) ?_;rintro b6 i5 b2;obtain⟨i,j,k,rfl⟩:=b2.sl;refine⟨_,_,_,rfl,Ok.mk ?_⟩;rw[b0 (Zx (by rw[l];rfl))];exact b2.HM o
 ·rintro b6 i6 b3
  obtain⟨i,j,k,rfl⟩:=b3.sl;refine⟨_,_,_,rfl,Ok.mk ?_⟩;rw[b0 (Zq (by
   intro l;have:f++d=[]:=by simpa using l
   rw[this]at a9;simp at a9;omega))]
  exact b3.HM o
end
def uc:fL:=⟨[],[],[],[],[]⟩
def ud(n:(rS b (ad a c) λP d e=>(rS b (ad i (l+1)) λf g h=>(rI b (ad E (c1+2)) λj=>(rI b (ad E (c1+3)) λk=>(rI b (ad E (c1+4)) λm=>PC_ 131 #[.agg #[.slice P d e],.slice f g h,.ii j,.ii k,.ii m] b (kI_ λo p=>rt t ((.ii o)) p) (pE t))))))):YX 130 #[.pointer (some ⟨a,c,none⟩),.pointer (some ⟨i,l,none⟩),.pointer (some ⟨E,c1,none⟩)] b t:=DC uc Tryz.func130 rfl n
def xu:fL:=⟨[(13,[(68,ZH 0)])],[(11,[]),(20,[(25,.pointer (some ⟨0,0,none⟩)),(26,ZH 0)])],[19],[],[(19,⟨[0,0,0,4,0,24,0,96,171,256,512,512,0,6143,16383],[32767,32767,32767,32763,32767,32751,32767,32671,32628,32511,32255,32255,32767,27647,30719],[1,0,0,2,0,2,0,0,2,0,0,0,2,2,0]⟩)]⟩
def xv{W X h Y:YQ}{p d Z a2 a3 a4 a5 a6 a7:Int}(a0:PA b (.cells #[.slice W a c,.slice X i l] 25) λP=>PA P (.cells #[.ii Z,.ii a2,.ii a3,.ii a4,.ii a5,.ii a6,.ii a7] 38) λe=>PA e (.cells #[.ii 0,.ii 0,.ii 0,.slice none 0 0,.ii 0,.ii 0,.ii 0,.ii 0,.ii 0,.ii 0] 63) λs=>(∃a8 a9 b0 b1 b2 b3,s.cell? (ab_ b 0)=some (.slice a8 a9 b0)/\s.cell? (ab_ b (0+1))=some (.slice b1 b2 b3)/\(Ld 38 (ab_ P 0) s λf2=>PC_ 125 #[.agg #[.slice a8 a9 b0,.slice b1 b2 b3],f2] s (kI_ λb4 y=>al (b4 !=0) (St 63 (ab_ e 0) (.agg #[.ii 0,.ii 0,.ii 0,.slice none 0 0,.ii 0,.ii 0,.ii 0,.ii 0,.ii 0,.ii 0]) y λb5=>(Ld 63 (ab_ e 0) b5 λf3=>rt t ((.tuple #[f3,.bool false,.ii b4])) b5)) ((rI y (ab_ P (0+6)) λf4=>PC_ 126 #[.pointer h,.ii f4] y (λf5 z=>qk (cN ZP 63) λb6=>∃b7,f5= .tuple #[b6,.bool b7]/\PA z (.cells #[.ii 0,.ii 0,.ii 0,.slice none 0 0,.ii 0,.ii 0,.ii 0,.ii 0,.ii 0,.ii 0] 63) λf6=>St 63 (ab_ z 0) b6 f6 λf=>al b7 ((Ld 63 (ab_ z 0) f λf7=>St 63 (ab_ e 0) f7 f λb8=>(Ld 63 (ab_ e 0) b8 λf8=>rt t ((.tuple #[f8,.bool false,.ii 0])) b8))) ((rS f (ab_ b 0) λf9 g0 j1=>(rI f (ab_ P 0) λb9=>(ix_ f9 b9 g0 λg1 g2=>(rS f (ad g1 (g2+Int.toNat b9)) λg3 g4 g5=>PA f (.cells #[.slice none 0 0] 118) λg6=>PS g6 (ab_ f 0) (.slice g3 g4 g5) λA=>(rI A (ab_ P 0) λg7=>(rI A (ab_ P (0+1)) λg8=>PC_ 127 #[.pointer Y,.ii g7,.ii g8] A (λg9 m=>∃c0 c1 c2 c3 c4,g9= .tuple #[.agg #[.ii c0,.slice c1 c2 c3],.bool c4]/\PA m (.cells #[.ii 0,.slice none 0 0] 49) λh0=>PS h0 (ab_ m 0) (.ii c0) λh1=>PS h1 (ab_ m (0+1)) (.slice c1 c2 c3) λB=>(∃C:ZU,(al (!c4) ((rS B (ab_ f 0) λh2 h3 h4=>PC_ 128 #[.agg #[.slice h2 h3 h4]] B (kS_ λh5 h6 h7 h8=>PS h8 (ab_ m (0+1)) (.slice h5 h6 h7) λh9=>C h9) (pE t))) (C B))/\∀(j2:Nat->Value) (E:World),C E->PA E (.cells #[.func (.func 129) #[] #[.pointer (some (ab_ P 0)),.pointer (some (ab_ m 0))],.func (.func 130) #[] #[.pointer (some (ab_ f 0)),.pointer (some (ab_ m 0)),.pointer (some (ab_ P 0))]] 106) λi0=>(∃F:Nat->Int->ZU,(∃u,F u 0 i0)/\∀(u:Nat) (o:Int) (j3:Nat->Value) (v:World),F u o v->al (decide (o<(2:Int))) ((∃c5 c6,((some (ab_ E 0)):YQ)=some ⟨c5,c6,none⟩/\(0:Int)<=o/\o<(2:Int)/\(∃(c7:Value),v.cell? (ad c5 (c6+Int.toNat o))=some c7/\(∃H c8 d0,(c7:Value)= .func (.func H) c8 d0/\enters ZP H=true/\PC_ H (c8++ #[]++d0) v (kI_ λd1 d2=>al (d1 !=0) (St 63 (ab_ e 0) (.agg #[.ii 0,.ii 0,.ii 0,.slice none 0 0,.ii 0,.ii 0,.ii 0,.ii 0,.ii 0,.ii 0]) d2 λd3=>(Ld 63 (ab_ e 0) d3 λi1=>rt t ((.tuple #[i1,.bool false,.ii d1])) d3)) ((∃d4,d4<u/\F d4 (ZG .i64 (o+1)) d2))) (pE t))))) ((∃q:Nat->Nat->Int->ZU,((∀g,aV v g->∃n:ZN,(¬n P.heap.size/\(Ld 38 (ab_ P 0) g λw=>((PC_ 58 #[.pointer h] g (kS_ λD I J j=>(ak n g j/\((PC_ 133 #[.pointer h] j (kI_ λx k=>(ak n j k/\((PC_ 132 #[w,.ii p,.slice D I J,.ii (if d>x then d else x)] k (λi2 r=>qk (cN ZP 63) λd5=>∃d6,i2= .tuple #[d5,.ii d6]/\(ak n k r/\PA r (.cells #[.ii 0,.ii 0,.ii 0,.slice none 0 0,.ii 0,.ii 0,.ii 0,.ii 0,.ii 0,.ii 0] 63) λG=>(ak n r G/\St 63 (ab_ r 0) d5 G λd7=>(ak n G d7/\q r.heap.size 0 d6 d7)))) (pZ t))/\(PA k (.cells #[.ii 0,.ii 0,.ii 0,.slice none 0 0,.ii 0,.ii 0,.ii 0,.ii 0,.ii 0,.ii 0] 63) λK=>(ak n k K/\PC_ 132 #[w,.ii p,.slice D I J,.ii (if d>x then d else x)] K (λi3 L=>qk (cN ZP 63) λd8=>∃d9,i3= .tuple #[d8,.ii d9]/\(ak n K L/\St 63 (ab_ k 0) d8 L λe0=>(ak n L e0/\q k.heap.size 0 d9 e0))) (pZ t)))))) (pZ t))/\(PA j (.cells #[.ii 0,.ii 0,.ii 0,.slice none 0 0,.ii 0,.ii 0,.ii 0,.ii 0,.ii 0,.ii 0] 63) λM=>(ak n j M/\PC_ 133 #[.pointer h] M (kI_ λe1 N=>(ak n M N/\PC_ 132 #[w,.ii p,.slice D I J,.ii (if d>e1 then d else e1)] N (λi4 O=>qk (cN ZP 63) λe2=>∃e3,i4= .tuple #[e2,.ii e3]/\(ak n N O/\St 63 (ab_ j 0) e2 O λe4=>(ak n O e4/\q j.heap.size 0 e3 e4))) (pZ t))) (pZ t)))))) (pZ t))/\(PA g (.cells #[.ii 0,.ii 0,.ii 0,.slice none 0 0,.ii 0,.ii 0,.ii 0,.ii 0,.ii 0,.ii 0] 63) λQ=>(ak n g Q/\PC_ 58 #[.pointer h] Q (kS_ λi5 i6 i7 R=>(ak n Q R/\PC_ 133 #[.pointer h] R (kI_ λe5 S=>(ak n R S/\PC_ 132 #[w,.ii p,.slice i5 i6 i7,.ii (if d>e5 then d else e5)] S (λi8 T=>qk (cN ZP 63) λe6=>∃e7,i8= .tuple #[e6,.ii e7]/\(ak n S T/\St 63 (ab_ g 0) e6 T λe8=>(ak n T e8/\q g.heap.size 0 e7 e8))) (pZ t))) (pZ t))) (pZ t))))))))/\∀(e9:Nat) (f0:Nat) (U:Int) (j4:Nat->Value) (V:World),q e9 f0 U V->(Ld 63 (ad e9 f0) V λi9=>St 63 (ab_ e 0) i9 V λf1=>(Ld 63 (ab_ e 0) f1 λj0=>rt t ((.tuple #[j0,.bool (U==0),.ii U])) f1))))))) (pE t))))))))) (pE t)))) (pE t)))):YX 80 #[.agg #[.slice W a c,.slice X i l],.pointer h,.pointer Y,.ii p,.ii d,.agg #[.ii Z,.ii a2,.ii a3,.ii a4,.ii a5,.ii a6,.ii a7]] b t:=DC xu Tryz.func80 rfl a0
def ua:fL:=⟨[],[],[],[],[]⟩
def ub(n:(rI b (ad a (c+5)) λP=>al (P==(-1)) (rt t ((.ii 0)) b) ((rI b (ad a (c+5)) λd=>(rI b (ad i l) λe=>al (d==e) (rt t ((.ii 0)) b) (rt t ((.ii 11)) b)))))):YX 129 #[.pointer (some ⟨a,c,none⟩),.pointer (some ⟨i,l,none⟩)] b t:=DC ua Tryz.func129 rfl n
def xo:fL:=⟨[],[],[6],[],[(6,⟨[0,1,0,4,0,16,0,64,0,256,0,1024,0,4096,0,16384,43690,0,262143],[524287,524286,524287,524283,524287,524271,524287,524223,524287,524031,524287,523263,524287,520191,524287,507903,480597,524287,327679],[0,0,0,2,0,1,0,1,0,1,0,1,0,1,0,1,0,2,2]⟩)]⟩
def wL{p q r s u v w g h:Int}(O:PA b (.cells #[.ii p,.ii q,.ii r,.ii s,.ii u,.ii v,.ii w] 38) λn=>PA n (.cells #[.ii 0,.ii 0,.ii 0,.slice none 0 0,.ii 0,.ii 0,.ii 0,.ii 0,.ii 0,.ii 0] 63) λi=>al (decide (g<0)) (St 63 (ab_ n 0) (.agg #[.ii 0,.ii 0,.ii 0,.slice none 0 0,.ii 0,.ii 0,.ii 0,.ii 0,.ii 0,.ii 0]) i λx=>(Ld 63 (ab_ n 0) x λQ=>rt t ((.tuple #[Q,.ii 1])) x)) (al (decide (g>=(a:Int))) (St 63 (ab_ n 0) (.agg #[.ii 0,.ii 0,.ii 0,.slice none 0 0,.ii 0,.ii 0,.ii 0,.ii 0,.ii 0,.ii 0]) i λy=>(Ld 63 (ab_ n 0) y λR=>rt t ((.tuple #[R,.ii 1])) y)) (al (decide (h<0)) (St 63 (ab_ n 0) (.agg #[.ii 0,.ii 0,.ii 0,.slice none 0 0,.ii 0,.ii 0,.ii 0,.ii 0,.ii 0,.ii 0]) i λz=>(Ld 63 (ab_ n 0) z λS=>rt t ((.tuple #[S,.ii 1])) z)) (PC_ 196 #[.slice d a c,.ii g] i (kI_ λj k=>al (j==9223372036854775807) (St 63 (ab_ n 0) (.agg #[.ii 0,.ii 0,.ii 0,.slice none 0 0,.ii 0,.ii 0,.ii 0,.ii 0,.ii 0,.ii 0]) k λA=>(Ld 63 (ab_ n 0) A λT=>rt t ((.tuple #[T,.ii 13])) A)) (al (h==9223372036854775807) (St 63 (ab_ n 0) (.agg #[.ii 0,.ii 0,.ii 0,.slice none 0 0,.ii 0,.ii 0,.ii 0,.ii 0,.ii 0,.ii 0]) k λB=>(Ld 63 (ab_ n 0) B λU=>rt t ((.tuple #[U,.ii 13])) B)) ((∀P,aV k P->∃e:ZN,(¬e b.heap.size/\(rI P (ab_ b 0) λD=>(¬e b.heap.size/\(rI P (ab_ b (0+1)) λC=>(¬e b.heap.size/\(rI P (ab_ b (0+2)) λE=>(¬e b.heap.size/\(rI P (ab_ b (0+3)) λG=>(¬e b.heap.size/\(rI P (ab_ b (0+4)) λF=>(¬e b.heap.size/\(rI P (ab_ b (0+6)) λH=>((PC_ 192 #[.slice d a c,.slice none 0 0] P (kS_ λV W X f=>(ak e P f/\PA f (.cells #[.ii 0,.ii 0,.ii 0,.slice none 0 0,.ii 0,.ii 0,.ii 0,.ii 0,.ii 0,.ii 0] 63) λl=>(ak e f l/\St 63 (ab_ f 0) (.agg #[.ii 0,.ii 0,.ii (ZG .i64 (h+1)),.slice V W X,.ii D,.ii C,.ii E,.ii G,.ii F,.ii H]) l λI=>(ak e l I/\PS I (ab_ f 0) (.ii g) λY=>PS Y (ab_ f (0+1)) (.ii (ZG .i64 (j+1))) λJ=>(Ld 63 (ab_ f 0) J λZ=>St 63 (ab_ n 0) Z J λK=>(Ld 63 (ab_ n 0) K λa1=>rt t ((.tuple #[a1,.ii 0])) K)))))) (pZ t))/\(PA P (.cells #[.ii 0,.ii 0,.ii 0,.slice none 0 0,.ii 0,.ii 0,.ii 0,.ii 0,.ii 0,.ii 0] 63) λm=>(ak e P m/\PC_ 192 #[.slice d a c,.slice none 0 0] m (kS_ λa2 a3 a4 o=>(ak e m o/\St 63 (ab_ P 0) (.agg #[.ii 0,.ii 0,.ii (ZG .i64 (h+1)),.slice a2 a3 a4,.ii D,.ii C,.ii E,.ii G,.ii F,.ii H]) o λL=>(ak e o L/\PS L (ab_ P 0) (.ii g) λa5=>PS a5 (ab_ P (0+1)) (.ii (ZG .i64 (j+1))) λM=>(Ld 63 (ab_ P 0) M λa6=>St 63 (ab_ n 0) a6 M λN=>(Ld 63 (ab_ n 0) N λa7=>rt t ((.tuple #[a7,.ii 0])) N))))) (pZ t)))))))))))))))))))) (pE t))))):YX 132 #[.agg #[.ii p,.ii q,.ii r,.ii s,.ii u,.ii v,.ii w],.ii g,.slice d a c,.ii h] b t:=DC xo Tryz.func132 rfl O
def fB(n:ly):List Value:=[ZH n.aU,ZH n.agg,ZH n.field,ZH n.op,ZH n.arg,ZH n.expect,ZH n.key]
abbrev wK(n:ly):Value:=.agg (fB n).toArray
def qm(n:ly):ij ZP 38 (fB n)=true:=kR
section
variable {w w':World} {D:ZN}
def Dg{tn m k o:Nat}(p:eP w)(h:bg w D R d tn s k)(q:∀a,D a->a<w.heap.size):
  YX 125 #[.agg #[.slice d tn m,.slice s k o],wK d7] w (Ok λe w'=>e= ZH (ju R d7)/\ai w w'):=by
 refine yY (PA.mk λv r x b=>PA.mk λt l y n=>?_);have b:=l.get b id;have c:=r.then l;have P:(d7.agg<0\/d7.key<0\/d7.expect< -1)->Ok (λe w'=>e= ZH (ju R d7)/\ai w w') (.returned (ZH 1)) t:=λf=>Ok.mk ⟨by unfold ju;rw[Zx f],c⟩;refine⟨_,ae n rfl,al.dec (λg=>P (.inl g)) (λg=>⟨_,ae n rfl,al.dec (λi=>P (.inr (.inl i))) (λi=>⟨_,ae n rfl,al.dec (λj=>P (.inr (.inr j))) (λj=>⟨_,_,_,_,_,_,ae b rfl,ae b rfl,_,ae n rfl,_,ae n rfl,_,ae n rfl,_,ae n rfl,PC.ok (yk (p.ah c) (h.ah c) λa f=>by have:=q a f;omega) ?_⟩)⟩)⟩)⟩;rintro _ z ⟨rfl,u⟩;exact⟨_,rfl,Ok.mk ⟨by unfold ju;rw[Zq (by rintro(h|h|h);exact g h;exact i h;exact j h)],c.then u⟩⟩
def Gj(a:∀b∈v,aJ b)(n:Int):0<=fD v n/\fD v n<=9223372036854775807:=by
 unfold fD;split
 ·omega
 ·by_cases P:n.toNat<v.length
  ·have:=a _ (XY P)
   unfold aJ at this;simp only[QQ,Qq P,Option.getD_some];omega
  ·simp only[QQ,Q7 (Nat.le_of_not_lt P),Option.getD_none]
   omega
def NB(n P:List Int):(jY n P).length=max n.length P.length:=by unfold jY;rw[sR]
def Ss(P a:List Int)(d:∀n∈P,aJ n)(e:∀n∈a,aJ n):∀n∈jY P a,aJ n:=by
 intro n b;unfold jY qt at b;obtain⟨c,-,rfl⟩:=Xk.1 b;have f:=Gj d c;have g:=Gj e c;unfold aJ;omega
def jq(Q:Row aI 8 w D d a v)(hl:m<=9223372036854775807)(hn:v.length<=20000000):
  YX 132 #[wK d7,ZH e,.slice d a c,ZH m] w (Ok λu w'=>∃d a j G,u= .tuple #[jT (aS d7 e v m).2 d a j,ZH (aS d7 e v m).1]/\Row aI 8 w' G d a (aS d7 e v m).2.aQ/\(∀n,G n->w.heap.size<=n/\n<w'.heap.size)/\ai w w'):=by
 have a9:=Q.len;have A:=Q.tE;refine wL (PA.mk λB k1 s1 K=>PA.mk λL R s2 S=>?_);have K:=R.get K id;have j:=k1.then R;have k:∀{o:World} {no:Int},ai L o->aS d7 e v m=(no,r_)->kv ZP 63 (ZL B.heap.size) (jT r_ none 0 0) o λw4=>gP ZP 63 (ZL B.heap.size) w4 λu=>Ok (λu w'=>∃d a j G,u= .tuple #[jT (aS d7 e v m).2 d a j,ZH (aS d7 e v m).1]/\Row aI 8 w' G d a (aS d7 e v m).2.aQ/\(∀n,G n->w.heap.size<=n/\n<w'.heap.size)/\ai w w') (.returned (.tuple #[u,ZH no])) w4:=λ{o no} C T=>
  az (aX r_ none 0 0) (C.get S id) rfl λw4 l s4 M=>au (aX r_ none 0 0) M (Ok.mk ⟨none,0,0,λ_=>False,by rw[T],by rw[T];exact Row.nil _ _,λn P=>P.elim,(j.then C).new l λn P=>.inr oM⟩)
 refine al.dec (λU=>k (ak.refl _) ?_) (λU=>al.dec (λh2=>k (ak.refl _) ?_) (λh2=>al.dec (λC=>k (ak.refl _) ?_) (λC=>PC.ok (od (A.ah j)) ?_)))
 ·unfold aS;rw[Zx (.inl U)]
 ·unfold aS;rw[Zx (.inr (.inl oM))]
 ·unfold aS;rw[Zx (.inr (.inr C))]
 rintro _ _ ⟨rfl,rfl⟩;have N:¬(e<0\/(v.length:Int)<=e\/m<0):=by rintro(h|h|h)<;>omega
 refine⟨_,rfl,al.cX (λJ=>k (ak.refl _) ?_) (λJ=>al.cX (λE=>k (ak.refl _) ?_) (λE=>λo V=>?_))⟩
 ·unfold aS;rw[Zq N,Zx (.inl J)]
 ·unfold aS;rw[Zq N,Zx (.inr E)]
 have W:aS d7 e v m=(0,⟨e,fD v e+1,m+1,jY v [],d7.aU,d7.agg,d7.field,d7.op,d7.arg,d7.key⟩):=by
  unfold aS;rw[Zq N,Zq (by rintro(h|h);exact J h;exact E h)]
 have hg:=Gj A.Uc e;have wl:ZG .i64 (m+1)=m+1:=wrap_i64 (by unfold aJ;omega);have ws:ZG .i64 (fD v e+1)=fD v e+1:=wrap_i64 (by unfold aJ;have:fD v e≠9223372036854775807:=J;omega);rw[wl,ws];have F:ai L o:=V.af;have s3:o.heap.size=L.heap.size:=by rw[V.heap]
 have X:=j.then F;have y:=F.get K id;have Y:=F.get S id;have jl:(jY v []).length<=20000000:=by rw[NB];simp;omega
 have jI:∀a0∈jY v [],aJ a0:=Ss v [] A.Uc sM;have z:¬(o.heap.size<=w.heap.size):=oM
 have H:∀{w4 r:World} {b:YQ} {g i x:Nat},ai w r->Own r 3 1 b g i (ints (jY v []))->(∀n,aD b=some n->o.heap.size<=n/\n≠x)->r.heap[B.heap.size]? =some (.cells (aE r_ none 0 0).toArray 63 (0,0))->r.heap[x]? =some (.cells #[ZH 0,ZH 0,ZH (m+1),.slice b g i,ZH d7.aU,ZH d7.agg,ZH d7.field,ZH d7.op,ZH d7.arg,ZH d7.key] 63 (0,0))->o.heap.size<=x->
   PS r ⟨x,0,none⟩ (ZH e) λa4=>PS a4 ⟨x,0+1,none⟩ (ZH (fD v e+1)) λZ=>gP ZP 63 (ZL x) Z λa5=>kv ZP 63 (ZL B.heap.size) a5 Z λa2=>gP ZP 63 (ZL B.heap.size) a2 λa6=>Ok (λu w'=>∃d a j G,u= .tuple #[jT (aS d7 e v m).2 d a j,ZH (aS d7 e v m).1]/\Row aI 8 w' G d a (aS d7 e v m).2.aQ/\(∀n,G n->w.heap.size<=n/\n<w'.heap.size)/\ai w w') (.returned (.tuple #[a6,ZH 0])) a2:=λ{w4 r b g i x} E s p hz a7 b0=>by
  refine PS.mk a7 sM λw6 f s6 I=>PS.mk I sM λw7 O s7 g7=>?_;have a8:=O.get (f.get hz oM) oM;refine au (cs:=aE ⟨e,fD v e+1,m+1,jY v [],d7.aU,d7.agg,d7.field,d7.op,d7.arg,d7.key⟩ b g i) (aX _ _ _ _) g7 (az (aX _ _ _ _) a8 rfl λw8 k8 s8 g8=>au (aX _ _ _ _) g8 (Ok.mk ⟨b,g,i,λn=>aD b=some n,by rw[W],?_,λn P=>⟨by have:=p n P;omega,?_⟩,?_⟩))
  ·rw[W]
   have a3:=(((s.af f (cZ.2 λn P t=>(p n P).2 t)).af O (cZ.2 λn P t=>(p n P).2 t)).af k8 (cZ.2 λn P t=>by have:=p n P;omega))
   exact(⟨⟨_,λ_=>False,a3,kr.2 ⟨rfl,jI⟩,λ_ h=>h.elim⟩,λn P=>P,λn P=>a3.lt P⟩:aM aI 3 (λn=>aD b=some n) w8 b g i (jY v [])).row dC (by unfold aK;omega)
  ·have:=s.lt P;omega
  ·exact((E.new f λn P=>.inr oM).new O λn P=>.inr oM).new k8 λn P=>.inr oM
 refine⟨λn=>o.heap.size<=n,z,_,ae y rfl,z,_,ae y rfl,z,_,ae y rfl,z,_,ae y rfl,z,_,ae y rfl,z,_,ae y rfl,PC.ok (Bb ((A.ah j).ah F) (Ints.nil _)) ?_,PA.mk λw4 l s4 M=>⟨ai.af l,PC.ok (Bb (((A.ah j).ah F).ah l) (Ints.nil _)) ?_⟩⟩
 ·rintro _ w4 ⟨b,g,i,rfl,s,l,p⟩
  have z4:=l.size;refine⟨_,_,_,rfl,ai.af l,PA.mk λr q s5 g5=>⟨ai.af q,az (cs:=[ZH 0,ZH 0,ZH (m+1),.slice b g i,ZH d7.aU,ZH d7.agg,ZH d7.field,ZH d7.op,ZH d7.arg,ZH d7.key]) (aX ⟨0,0,m+1,[],d7.aU,d7.agg,d7.field,d7.op,d7.arg,d7.key⟩ b g i) g5 rfl λw6 f s6 I=>⟨f.mono λn _ t=>oM,H (w4:=w4) (((X.then l).then q).new f λn P=>.inr oM) ((s.ah q).af f (cZ.2 λn P t=>by have:=s.lt P;omega)) (λn P=>⟨p n P,by have:=s.lt P;omega⟩) (f.get (q.get (l.get Y id) id) oM) I oM⟩⟩⟩
 ·rintro _ r ⟨b,g,i,rfl,s,q,p⟩
  have z5:=q.size;refine⟨_,_,_,rfl,ai.af q,az (cs:=[ZH 0,ZH 0,ZH (m+1),.slice b g i,ZH d7.aU,ZH d7.agg,ZH d7.field,ZH d7.op,ZH d7.arg,ZH d7.key]) (aX ⟨0,0,m+1,[],d7.aU,d7.agg,d7.field,d7.op,d7.arg,d7.key⟩ b g i) (q.get M id) rfl λw6 f s6 I=>⟨f.mono λn _ t=>oM,H (w4:=w4) (((X.then l).then q).new f λn P=>.inr oM) (s.af f (cZ.2 λn P t=>by have:=p n P;omega)) (λn P=>⟨by have:=p n P;omega,by have:=p n P;omega⟩) (f.get (q.get (l.get Y id) id) oM) I oM⟩⟩
end
section
variable {w w':World} {D Fs Fv:ZN} {s v:Nat} {S:aw} {V:aW} {d:aN} {c:ly} {origin start:Int}
def vT(w:World)(n:aj×Bool×Int)(c:Value)(w':World):Prop:=∃a b d G,c= .tuple #[jT n.1 a b d,.bool n.2.1,ZH n.2.2]/\Row aI 8 w' G a b n.1.aQ/\(∀P,G P->w.heap.size<=P/\P<w'.heap.size)/\ai w w'
def xQ(d:aN)(s:aw)(v:aW)(origin start:Int)(c:ly):rq d s v origin start c=if ju d c≠0 then(r_,false,ju d c)else
  match s.keyed c.key with
  |some n=>(n,false,0)
  |none=>if¬(c.expect= -1\/c.expect=((v.state c.aU c.agg).getD ⟨0,[]⟩).version)then(r_,false,11)else
   if wF (d.at c.aU) (match v.state c.aU c.agg with|some P=>P.cells|none=>dF (d.at c.aU)) c.field c.op c.arg≠0 then(r_,false,10)else
   ((aS c origin s.vec (max s.top start)).2,decide ((aS c origin s.vec (max s.top start)).1=0),(aS c origin s.vec (max s.top start)).1):=rfl
def DU{ta pa:YQ}{tn tc pn pc:Nat}(hT:eP w)(hd:bg w D d ta tn pa pn)(hD:∀n,D n->n<w.heap.size)(j0:cU d=0)(hs:ck w s Fs S)(j1:S.l.length<=20000000)(hv:cg w v Fv V)(j2:V.decl=d)(o4:start<=9223372036854775807)(o1:S.top<=9223372036854775807):
  YX 80 #[.agg #[.slice ta tn tc,.slice pa pn pc],ZL s,ZL v,ZH origin,ZH start,wK c] w (Ok (vT w (rq d S V origin start c))):=by
 refine xv (PA.mk λw1 k1 s1 g1=>PA.mk λw2 k2 s2 g2=>PA.mk λw3 k3 s3 g3=>?_);have q:=(k1.then k2).then k3;have gd:=k3.get (k2.get g1 id) id;have gc:=k3.get g2 id;have y:∀{z:World} {no:Int},ai w3 z->rq d S V origin start c=(r_,false,no)->kv ZP 63 (ZL w2.heap.size) (jT r_ none 0 0) z λt=>gP ZP 63 (ZL w2.heap.size) t λr=>Ok (vT w (rq d S V origin start c)) (.returned (.tuple #[r,.bool false,ZH no])) t:=λ{z no} h4 Q=>
  az (aX r_ none 0 0) (h4.get g3 id) rfl λt k5 s5 g5=>au (aX r_ none 0 0) g5 (Ok.mk ⟨none,0,0,λ_=>False,by rw[Q],by rw[Q];exact Row.nil _ _,λn P=>P.elim,(q.then h4).new k5 λn P=>.inr oM⟩)
 refine⟨_,_,_,_,_,_,ae gd rfl,ae gd rfl,au (qm c) gc (PC.ok (Dg (hT.ah q) (hd.ah q) λn P=>by have:=hD n P;omega) ?_)⟩;rintro _ z ⟨rfl,R⟩;refine⟨_,rfl,al.dP (λT=>y R (by rw[xQ,Zx T])) (λe5=>⟨_,ae (R.get gc id) rfl,PC.ok (OQ (hs.ah (q.then R)) j1) ?_⟩)⟩;rintro _ t ⟨U,W,X,G5,rfl,e6,e7,k5⟩;have b5:=R.then k5;have o5:=b5.size;have A:∀{r:aj×Bool×Int},(match S.keyed c.key with
  |some k=>(k,false,0)
  |none=>if¬(c.expect= -1\/c.expect=((V.state c.aU c.agg).getD ⟨0,[]⟩).version)then(r_,false,11)else
   if wF (d.at c.aU) (match V.state c.aU c.agg with|some B=>B.cells|none=>dF (d.at c.aU)) c.field c.op c.arg≠0 then(r_,false,10)else
   ((aS c origin S.vec (max S.top start)).2,decide ((aS c origin S.vec (max S.top start)).1=0),(aS c origin S.vec (max S.top start)).1))=r->rq d S V origin start c=r:=λ{r} hr=>by
  rw[xQ,Zq (by simpa using e5)];exact hr
 refine bT (rY _ U W X) ⟨_,rfl,PA.mk λw6 k6 s6 g6=>az (aX _ U W X) g6 rfl λl k7 s7 g7=>al.mk (λhk=>?_) (λhk=>?_)⟩
 ·obtain⟨k,Q⟩:=Option.isSome_iff_exists.1 hk
  rw[Q]at e6 g7 A;have b1:ai t l:=k6.new k7 λn P=>.inr oM;refine au (aX _ U W X) g7 (az (aX _ U W X) (b1.get (b5.get g3 id) id) rfl λw8 k8 s8 g8=>au (aX _ U W X) g8 (Ok.mk ⟨U,W,X,G5,?_,?_,λn P=>?_,?_⟩))
  ·rw[A rfl];rfl
  ·rw[A rfl]
   exact(e6.ah b1).af k8 λn P k=>by have:=e7 n P;have:=q.size;have:=R.size;omega
  ·have:=e7 n P;have:=q.size;have:=R.size;omega
  ·exact((q.then b5).then b1).new k8 λn P=>.inr oM
 have d2:S.keyed c.key=none:=by simpa using hk
 rw[d2]at A;have b1:ai t l:=k6.new k7 λn P=>.inr oM;have K:=b5.then b1;have o6:=K.size;have b6:=q.then K;have e8:lk d c.aU c.field c.op c.arg=0:=by
  have:=e5;unfold ju at this;split at this
  ·simp at this
  ·exact this
 have j3:V.decl.at c.aU=d.at c.aU:=by rw[j2]
 obtain⟨hV,b0,hq⟩:=hv;have a6:(match V.state c.aU c.agg with|some B=>B.cells|none=>dF (d.at c.aU)).length=(d.at c.aU).length:=by
  unfold aW.state
  cases hs:aF V.eg (c.aU,c.agg)with
  |none=>simp[dF]
  |some s=>rw[<-j3];exact hV.st _ (bW hs)
 obtain⟨c4,t0,t1,o7⟩:=Ng j0 e8 a6;obtain⟨C,e9⟩:∃C:Nat,c.aU=C:=⟨c.aU.toNat,oM⟩
 have j4:d.at c.aU=d.types.getD C []:=by
  unfold aN.at;rw[Zx (bz.2 ⟨t0,oM⟩),e9,Qx]
 obtain⟨tb,lZ,es,j5,o8,o2,j6,fa,fn,fc,rfl,b2⟩:=(hd.ah b6).aU.el C d.types[C] sM;have b2:Row rZ 48 l D fa fn (d.at c.aU):=by
  rw[j4];have:d.types.getD C []=d.types[C]:=by simp[QQ,show C<d.types.length by omega]
  rw[this];exact b2
 have o9:=(hd.ah b6).aU.len;have c7:=j6 0 dC;have f2:mV.k=1:=rfl;rw[f2,Nat.mul_one]at c7;have j7:=K.get gd id;have f3:=K.get gc id;refine⟨_,_,_,ae j7 rfl,_,ae f3 rfl,tb,lZ,j5,t0,oM,fa,fn,fc,by rw[e9,Qx];exact c7,PA.mk λw8 k8 s8 g8=>PS.mk g8 sM λw9 k9 s9 g9=>?_⟩;have Y:ai l w9:=k8.new k9 λn P=>.inr oM;have d3:=Y.get f3 id;have d4:cg w v Fv V:=⟨hV,b0,hq⟩
 refine⟨_,ae d3 rfl,_,ae d3 rfl,PC.ok (nV (d4.ah (b6.then Y))) ?_⟩;rintro _ d5 ⟨ca,cn,cc,j8,rfl,f4,o3,L⟩;have b3:=Y.then L;have f5:=b6.then b3;have p0:=b3.size;obtain⟨E,hX⟩:∃E,E=(match V.state c.aU c.agg with|some B=>B.cells|none=>dF (d.at c.aU)):=⟨_,rfl⟩
 rw[<-hX]at c4 a6 A;refine⟨_,_,_,_,_,rfl,PA.mk λp1 j9 p2 k0=>PS.mk k0 sM λp3 l0 p4 l3=>PS.mk l3 sM λf8 l4 p5 g0=>?_⟩;have a5:ai d5 f8:=(j9.new l0 λn P=>.inr oM).new l4 λn P=>.inr oM;have l5:f8.heap[l.heap.size]? =some (.cells #[.slice fa fn fc] 118 (0,0)):=a5.get (L.get g9 id) id;have c8:=f4.ah a5;refine⟨λw'=>ai d5 w'/\∃ca cn cc G,w'.heap[d5.heap.size]? =some (.cells #[ZH ((V.state c.aU c.agg).getD Hz).version,.slice ca cn cc] 49 (0,0))/\Row eG 32 w' G ca cn E,?_,?_⟩
 ·refine al.not (al.mk (λl6=>⟨a5,ca,cn,cc,j8,g0,?_⟩) (λl7=>⟨_,_,_,ae l5 rfl,PC.ok (HX (t:=d.at c.aU) rfl b2.len (by rw[b2.len];omega)) ?_⟩))
  ·obtain⟨B,Z⟩:=Option.isSome_iff_exists.1 l6
   rw[Z]at c8 hX;have b7:E=B.cells:=hX;rw[b7];exact c8.row dC (by show B.cells.length*32<=aK;rw[<-b7,a6];unfold aK;omega)
  ·rintro _ p6 ⟨c0,n6,c6,G6,rfl,l8,d6,l9⟩
   have p7:=d6.size;refine⟨_,_,_,rfl,PS.mk (d6.get g0 id) sM λp8 g4 p9 m0=>⟨(a5.then d6).new g4 λn P=>.inr oM,c0,n6,c6,G6,m0,?_⟩⟩;have hn:V.state c.aU c.agg=none:=by simpa using l7
   rw[hn]at hX;have b7:E=dF (d.at c.aU):=hX;rw[b7];exact(l8.af g4 λn P k=>by have:=l9 n P;omega).row dC (by unfold aK dF;simp;omega)
 rintro _ m1 ⟨m2,q0,q1,q2,G2,h3,h5⟩;refine PA.mk λh8 d7 q3 m3=>?_;have F:=m2.then d7;have m4:=F.size;have c9:=f5.then F;have h9:=d7.get h3 id;have i0:=F.get (L.get d3 id) id;have i1:=F.get (L.get g9 id) id;have i2:=(((K.then Y).then L).then F).get g3 id;have m:∀{z:World} {no:Int},ai h8 z->rq d S V origin start c=(r_,false,no)->kv ZP 63 (ZL w2.heap.size) (jT r_ none 0 0) z λt=>gP ZP 63 (ZL w2.heap.size) t λr=>Ok (vT w (rq d S V origin start c)) (.returned (.tuple #[r,.bool false,ZH no])) t:=λ{z no} h4 Q=>y (((K.then Y).then L).then (F.then h4)) Q;refine⟨λa9 c5 w'=>∃H:Nat,c5=H/\H<=2/\a9=2-H/\ai h8 w'/\(1<=H->c.expect= -1\/c.expect=((V.state c.aU c.agg).getD ⟨0,[]⟩).version)/\(2<=H->wF (d.at c.aU) E c.field c.op c.arg=0),⟨_,0,rfl,oM,rfl,ak.refl _,λh=>oM,λh=>oM⟩,?_⟩;rintro a9 _ _ wu ⟨H,rfl,hj,rfl,i,d8,m5⟩;have d0:=i.get h9 id;have a0:=i.get i0 id;have i3:=i.get i1 id;have d1:=i.get m3 id;refine al.dec (λq4=>⟨m1.heap.size,0,rfl,oM,oM,?_⟩) (λq5=>?_)
 ·have m6:H=0\/H=1:=oM
  rcases m6 with rfl|rfl
  ·refine⟨_,ae d1 rfl,_,_,_,rfl,kR,PC.ok (φ:=λv w'=>v= ZH (if c.expect= -1\/c.expect=((V.state c.aU c.agg).getD ⟨0,[]⟩).version then 0 else 11)/\wu=w') (ub ⟨_,ae a0 rfl,al.cX (λh1=>Ok.mk ⟨by rw[Zx (.inl h1)],rfl⟩) (λh1=>⟨_,ae a0 rfl,_,ae d0 rfl,al.cX (λh2=>Ok.mk ⟨by rw[Zx (.inr h2)],rfl⟩) (λh2=>Ok.mk ⟨by rw[Zq (by rintro(h|h);exact h1 h;exact h2 h)],rfl⟩)⟩)⟩) ?_⟩
   rintro _ _ ⟨rfl,rfl⟩
   by_cases Z:c.expect= -1\/c.expect=((V.state c.aU c.agg).getD ⟨0,[]⟩).version
   ·rw[Zx Z]
    exact⟨_,rfl,al.ff rfl ⟨_,oM,1,rfl,oM,rfl,i,λ_=>Z,λh=>oM⟩⟩
   ·rw[Zq Z]
    exact⟨_,rfl,al.tt rfl (m i (A (by rw[Zx Z])))⟩
  ·refine⟨_,ae d1 rfl,_,_,_,rfl,kR,PC.ok (φ:=λv w'=>v= ZH (wF (d.at c.aU) E c.field c.op c.arg)/\ai wu w') (ud ⟨_,_,_,ae i3 rfl,_,_,_,ae d0 rfl,_,ae a0 rfl,_,ae a0 rfl,_,ae a0 rfl,PC.ok (HW c4 ((b2.ah (b3.then F)).ah i) ((h5.ah d7).ah i)) ?_⟩) ?_⟩
   ·rintro _ m7 ⟨rfl,b8⟩
    exact⟨_,rfl,Ok.mk ⟨rfl,b8⟩⟩
   ·rintro _ m7 ⟨rfl,b8⟩
    refine⟨_,rfl,al.dP (λT=>m (i.then b8) (A ?_)) (λh0=>⟨_,oM,2,rfl,oM,rfl,i.then b8,λ_=>d8 oM,λ_=>h0⟩)⟩;have m8:wF (d.at c.aU) E c.field c.op c.arg=10:=by
     rw[FO]at T⊢;split at T
     ·simp at T
     ·rename_i hq;rw[Zq hq]
    rw[Zq (λh=>h (d8 oM)),Zx T,m8]
 have i4:=A (r:=((aS c origin S.vec (max S.top start)).2,decide ((aS c origin S.vec (max S.top start)).1=0),(aS c origin S.vec (max S.top start)).1)) (by rw[Zq (λh=>h (d8 oM)),Zq (by rw[m5 oM];simp)]);have I:(if start>S.top then start else S.top)=max S.top start:=by split<;>omega
 have b9:(if start>S.top then start else S.top)<=9223372036854775807:=by split<;>omega
 refine⟨λeb eo no w'=>eo=0/\no=(aS c origin S.vec (max S.top start)).1/\ai wu w'/\∃a2 a3 a7 G,w'.heap[eb]? =some (.cells (aE (aS c origin S.vec (max S.top start)).2 a2 a3 a7).toArray 63 (0,0))/\Row aI 8 w' G a2 a3 (aS c origin S.vec (max S.top start)).2.aQ/\∀n,G n->wu.heap.size<=n/\n<w'.heap.size,?_,?_⟩
 rotate_left
 ·rintro eb _ no _ q6 ⟨rfl,rfl,d9,a,b,e,p,ge,u,f⟩
  have i5:=d9.get (i.get i2 id) id;have zk:=i.size;have q7:=d9.size;have zw:=q.size;refine au (aX _ a b e) ge (az (aX _ a b e) i5 rfl λq8 i6 q9 m9=>au (aX _ a b e) m9 (Ok.mk ⟨a,b,e,p,?_,?_,λn P=>?_,?_⟩))
  ·rw[i4];rfl
  ·rw[i4];exact u.af i6 λn P k=>by have:=f n P;omega
  ·have:=f n P;omega
  ·exact(((c9.then i).then d9)).new i6 λn P=>.inr oM
 ·intro M i7
  have e0:ai wu M:=i7.af;have r0:M.heap.size=wu.heap.size:=by rw[i7.heap]
  have i8:=e0.get a0 id;have a4:=hs.ah ((c9.then i).then e0);have zk:=i.size;have hn:=hs.1.n;have c1:S.vec.length<=20000000:=by rw[S.bN];omega
  have c2:S.vec.length*8<=aK:=by unfold aK;omega
  have x:∀{wE w6 l:World} {a1:Nat} {a:YQ} {b e:Nat} {p:ZN},ai M wE->Row aI 8 wE p a b (aS c origin S.vec (max S.top start)).2.aQ->(∀n,p n->M.heap.size<=n/\n<wE.heap.size/\n≠a1)->ai wE w6->M.heap.size<=a1->ak (λn=>n=a1) w6 l->l.heap.size=w6.heap.size->l.heap[a1]? =some (.cells (aE (aS c origin S.vec (max S.top start)).2 a b e).toArray 63 (0,0))->
    (λ(eb eo:Nat) (no:Int) (w':World)=>eo=0/\no=(aS c origin S.vec (max S.top start)).1/\ai wu w'/\∃a2 a3 a7 G,w'.heap[eb]? =some (.cells (aE (aS c origin S.vec (max S.top start)).2 a2 a3 a7).toArray 63 (0,0))/\Row aI 8 w' G a2 a3 (aS c origin S.vec (max S.top start)).2.aQ/\∀n,G n->wu.heap.size<=n/\n<w'.heap.size) a1 0 (aS c origin S.vec (max S.top start)).1 l:=λ{wE w6 l a1 a b e p} hE hr hG h6 hg h7 r3 n0=>by
   have z6:=h6.size;exact⟨rfl,rfl,((e0.then hE).then h6).new h7 λn P=>.inr oM,a,b,e,p,n0,(hr.ah h6).af h7 λn P k=>(hG n P).2.2 k,λn P=>by have:=hG n P;omega⟩
  have zc:¬(M.heap.size<=w1.heap.size):=by
   have h1:=((((k3.then K).then Y).then L).then F).size;omega
  refine⟨λn=>M.heap.size<=n,zc,au (qm c) i8 ⟨PC.ok (lJ a4) ?_,PA.mk λr4 c3 r5 n1=>⟨ai.af c3,PC.ok (lJ (a4.ah c3)) ?_⟩⟩⟩
  ·rintro _ n2 ⟨av,nv,cv,a8,rfl,b4,j,n3⟩
   have n4:=j.size;refine⟨_,_,_,rfl,ai.af j,PC.ok (Hv (a4.ah j)) ?_,PA.mk λn8 J n9 e1=>⟨ai.af J,PC.ok (Hv ((a4.ah j).ah J)) ?_⟩⟩
   ·rintro _ _ ⟨rfl,rfl⟩
    refine⟨_,rfl,ak.refl _,?_,?_⟩
    ·rw[I]
     refine PC.ok (jq (b4.row dC c2) (by rw[<-I];exact b9) c1) ?_;rintro _ e2 ⟨a,b,e,p,rfl,u,f,g⟩;have e3:=g.size;exact bT (rY _ a b e) ⟨_,rfl,ai.af g,PA.mk λr6 i9 r7 o0=>⟨ai.af i9,az (aX _ a b e) o0 rfl λe4 o N O=>⟨o.mono λn _ k=>oM,x (j.then g) u (λn P=>⟨by have:=f n P;omega,(f n P).2,by have:=f n P;omega⟩) i9 oM o N O⟩⟩⟩
    ·refine PA.mk λn8 J n9 e1=>⟨ai.af J,?_⟩
     rw[I];refine PC.ok (jq ((b4.ah J).row dC c2) (by rw[<-I];exact b9) c1) ?_;rintro _ e2 ⟨a,b,e,p,rfl,u,f,g⟩;have e3:=g.size;exact bT (rY _ a b e) ⟨_,rfl,ai.af g,az (aX _ a b e) (g.get e1 id) rfl λe4 o N O=>⟨o.mono λn _ k=>oM,x ((j.then J).then g) u (λn P=>⟨by have:=f n P;omega,(f n P).2,by have:=f n P;omega⟩) (ak.refl _) oM o N O⟩⟩
   ·rintro _ _ ⟨rfl,rfl⟩
    refine⟨_,rfl,ak.refl _,?_⟩;rw[I];refine PC.ok (jq ((b4.ah J).row dC c2) (by rw[<-I];exact b9) c1) ?_;rintro _ e2 ⟨a,b,e,p,rfl,u,f,g⟩;have e3:=g.size;exact bT (rY _ a b e) ⟨_,rfl,ai.af g,az (aX _ a b e) (g.get e1 id) rfl λe4 o N O=>⟨o.mono λn _ k=>oM,x ((j.then J).then g) u (λn P=>⟨by have:=f n P;omega,(f n P).2,by have:=f n P;omega⟩) (ak.refl _) oM o N O⟩⟩
  ·rintro _ n2 ⟨av,nv,cv,a8,rfl,b4,j,n3⟩
   have n4:=j.size;refine⟨_,_,_,rfl,ai.af j,PC.ok (Hv ((a4.ah c3).ah j)) ?_⟩;rintro _ _ ⟨rfl,rfl⟩;refine⟨_,rfl,ak.refl _,?_⟩;rw[I];refine PC.ok (jq (b4.row dC c2) (by rw[<-I];exact b9) c1) ?_;rintro _ e2 ⟨a,b,e,p,rfl,u,f,g⟩;have e3:=g.size;exact bT (rY _ a b e) ⟨_,rfl,ai.af g,az (aX _ a b e) ((j.then g).get n1 id) rfl λe4 o N O=>⟨o.mono λn _ k=>oM,x ((c3.then j).then g) u (λn P=>⟨by have:=f n P;omega,(f n P).2,by have:=f n P;omega⟩) (ak.refl _) oM o N O⟩⟩
end
structure jD where
 ta:YQ
 tn:Nat
 tc:Nat
 pa:YQ
 pn:Nat
 pc:Nat
 dp:Nat
 lp:YQ
 sp:Nat
 bp:Nat
 wp:Nat
 tp:Nat
abbrev jD.cells(n:jD)(P:bG)(a:Int):Array Value:= #[ZH P.ay,ZH P.vE,ZH P.bU,ZH P.chunk,ZH P.buffer,ZH P.cP,ZH P.every,ZH P.start,.slice n.ta n.tn n.tc,.slice n.pa n.pn n.pc,ZH a,
 ZL n.dp,.pointer n.lp,ZL n.sp,ZL n.bp,ZL n.wp,ZL n.tp]
def DL(b:World)(G:ZN)(c:Nat)(d:YQ)(D:an)(P:Option eJ):Prop:=
 ∃a,aO b c a D/\(∀n,a n->G n)/\match P with
  |none=>d=none
  |some e=>e.bQ≠[]/\∃f g,d=some ⟨f,0,none⟩/\iU b c f g e/\∀n,g n->G n/\¬a n
def Od(b:World)(G:ZN)(c:Nat)(n:Nat)(d:List aj):Prop:=∃a D,gN b c a D n d/\(∀P,a P->G P)/\∀P,D P->G P
def lG(c:Nat)(d:Array Value)(P:jD)(b:bG)(a:aR)(e:List aj):Nat->World->(ZN)->Prop
 |0=>λn G=>G c/\n.heap[c]? =some (.cells d 105 (0,0))
 |1=>λn G=>bg n G b.decl P.ta P.tn P.pa P.pn
 |2=>λn G=>DL n G P.dp P.lp a.D a.log
 |3=>λn G=>ck n P.sp G a.S/\a.S.Cl/\a.S.n=b.ay.toNat
 |4=>λn G=>cV n P.bp G b.decl b.every.toNat e
 |5=>λn G=>Od n G P.wp b.buffer.toNat a.waits
 |6=>λn G=>dL n P.tp G a.dO
 |_=>λ_ _=>True
section
variable {w w' w0:World} {p:Nat} {F G T:ZN} {cls:Nat->Nat} {h:jD} {c:bG} {self:Int} {X:aR} {dp:Nat} {lp:YQ} {D:an} {log:Option eJ}
def DL.af(h:DL w G dp lp D log)(a:ak T w w')(b:∀n,G n->¬T n):DL w' G dp lp D log:=by
 obtain⟨f,g,c,d⟩:=h;refine⟨f,g.af a λn P=>b n (c n P),c,?_⟩
 cases log with
 |none=>exact d
 |some o=>
  obtain⟨i,j,k,l,m,e⟩:=d;exact⟨i,j,k,l,m.af a λn P=>b n (e n P).1,e⟩
def bM:ku (lG p o h c X L):=by
 intro k w w' G T n a P
 match k,n with
 |0,n=>exact⟨n.1,a.get n.2 (P p n.1)⟩
 |1,n=>exact bg.af n a P
 |2,n=>exact DL.af n a P
 |3,n=>exact⟨ck.af n.1 a P,n.2⟩
 |4,n=>exact cV.af n a P
 |5,n=>obtain⟨g,D,i,e,f⟩:=n;exact⟨g,D,i.af a (λb d=>P b (e b d)) λb d=>P b (f b d),e,f⟩
 |6,n=>exact dL.af n a P
 |k+7,n=>trivial
structure gg (c:bG) (me:Int):Prop where
 right:fq c me=true
 decl:cU c.decl=0
 Ys:aJ c.bU
 every:aJ c.every
 start:aJ c.start
structure Env (w0 w:World) (F:ZN):Prop where
 nY:eP w0
 laid:Laid w0
 gr:ai w0 w
 aC:∀b,F b->w0.heap.size<=b
def Env.fK(h:Env w0 w F)(a:bB F w f w'):Env w0 w' f:=⟨h.nY,h.laid,h.gr.new a.af λn P=>.inr (h.aC n P),λn P=>(a.new n P).elim (h.aC n) λb=>by have:=h.gr.size;omega⟩
def Env.ah(h:Env w0 w F)(n:ai w w'):Env w0 w' F:=⟨h.nY,h.laid,h.gr.then n,h.aC⟩
abbrev cA(w:World)(F:ZN)(cls:Nat->Nat)(p:Nat)(h:jD)(c:bG)(self:Int)(X:aR):Prop:=aP w F cls (lG p (h.cells c self) h c X X.S.l)
def bH(w:World)(p:Nat)(F:ZN)(c:bG)(self:Int)(X:aR):Prop:=gg c self/\∃h cls,cA w F cls p h c self X
def cA.ah(n:cA w F cls p h c self X)(P:ai w w'):cA w' F cls p h c self X:=aP.ah n bM P
def cA.bk(n:cA w F cls p h c self X):w.heap[p]? =some (.cells (h.cells c self) 105 (0,0)):=(n.at' 0).2
def cA.Jq(n:cA w F cls p h c self X):F p/\cls p=0:=(n.at' 0).1
def bH.af(P:bH w p F c self X)(a:ak T w w')(b:∀n,F n->¬T n):bH w' p F c self X:=by
 obtain⟨d,h,cls,e⟩:=P;exact⟨d,h,cls,aP.af e bM a b⟩
def bH.ah(n:bH w p F c self X)(P:ai w w'):bH w' p F c self X:=n.af P λ_ _ h=>h
def bH.aC(P:bH w p F c self X):∀n,F n->n<w.heap.size:=by obtain⟨b,h,cls,a⟩:=P;exact a.aC
def cA.store{e a:Array Value}{b:jD}(n:aP w F cls (lG p e b c X L))(f:ak (·=p) w w')(g:w'.heap[p]? =some (.cells a 105 (0,0))):aP w' F cls (lG p a b c X L):=by
 refine aP.same n bM (k:=0) (f.mono λh _ P=>by have P:h=p:=P;exact P▸(n.at' 0).1) ⟨(n.at' 0).1,g⟩ λd G i j=>?_;rcases d with _|_|_|_|_|_|_|d<;>first|exact j|exact Zz rfl i
def DL.OB(g:DL w G dp lp D (some b4))(c:Env w0 w G)(l:∀n,G n->n<w.heap.size):∃b,lp=ZM b/\b4.bQ≠[]/\cd w0 w dp b b4 D (λn=>n<w.heap.size/\¬G n):=by
 obtain⟨h,i,e,j,b,k,rfl,f,d⟩:=g;refine⟨b,rfl,j,k,⟨h,i,c.gr,λn P=>⟨c.aC n (e n P),λa=>?_⟩,λn P=>?_⟩,f,λn P=>⟨c.aC n (d n P).1,λa=>a.2 (d n P).1⟩⟩
 ·rcases a with a|a
  ·exact a.2 (e n P)
  ·exact(d n a).2 P
 ·rcases P with P|P
  ·exact P.1
  ·exact f.aC n P
def DL.vE(c:DL w G dp lp D log)(a:Env w0 w G):aT w0 w dp D (λn=>n<w.heap.size/\¬G n):=by
 obtain⟨d,e,b,-⟩:=c;exact⟨d,e,a.gr,λn P=>⟨a.aC n (b n P),λf=>f.2 (b n P)⟩,λn P=>P.1⟩
def DL.Hh{Y:ZN}(l:cd w0 w' dp a b4 D (λn=>(n<w.heap.size/\¬G n)\/Y n))(m:ak (dz λn=>n<w.heap.size/\¬G n) w w')(o:b4.bQ≠[]):∃c,DL w' c dp (ZM a) D (some b4)/\bB G w c w'/\(∀n,c n->n<w'.heap.size)/\∀n,c n->¬Y n:=by
 obtain⟨f,⟨g,h,r,d,s⟩,i,j⟩:=l;have e:∀n,¬(n<w.heap.size/\¬G n)->G n\/w.heap.size<=n:=λn P=>by
  rcases Nat.lt_or_ge n w.heap.size with b|b
  ·exact .inl (Classical.byContradiction λp=>P ⟨b,p⟩)
  ·exact .inr b
 refine⟨λn=>g n\/f n,⟨g,h,λn P=>.inl P,o,a,f,rfl,i,λn P=>⟨.inr P,λq=>(d n q).2 (.inr P)⟩⟩,⟨m.mono λn t P=>(e n P).resolve_right oM,λn P=>?_⟩,λn P=>?_,λn P k=>?_⟩
 ·rcases P with P|P
  ·exact e n λb=>(d n P).2 (.inl (.inl b))
  ·exact e n λb=>(j n P).2 (.inl b)
 ·exact P.elim (h.aC n) (i.aC n)
 ·rcases P with P|P
  ·exact(d n P).2 (.inl (.inr k))
  ·exact(j n P).2 (.inr k)
def DL.MY{Y:ZN}(g:aT w0 w' dp D (λn=>(n<w.heap.size/\¬G n)\/Y n))(h:ak (dz λn=>n<w.heap.size/\¬G n) w w'):∃b,DL w' b dp none D none/\bB G w b w'/\(∀n,b n->n<w'.heap.size)/\∀n,b n->¬Y n:=by
 obtain⟨c,d,k,e,l⟩:=g;have f:∀n,¬(n<w.heap.size/\¬G n)->G n\/w.heap.size<=n:=λn P=>by
  rcases Nat.lt_or_ge n w.heap.size with a|a
  ·exact .inl (Classical.byContradiction λi=>P ⟨a,i⟩)
  ·exact .inr a
 exact⟨c,⟨c,d,λn P=>P,rfl⟩,⟨h.mono λn m P=>(f n P).resolve_right oM,λn P=>f n λa=>(e n P).2 (.inl a)⟩,λn P=>d.aC n P,λn P j=>(e n P).2 (.inr j)⟩
end
def Jz{D:an}(P:b4.bQ≠[]):(bb b4 D).2.1.bQ≠[]:=by
 have b:∀n:an,(ri b4 n).2.1.bQ≠[]:=by
  intro n;unfold ri;dsimp only;split
  ·exact P
  ·split
   ·exact P
   ·simp
 have a:∀n:an,(mM b4 n).2.1.bQ≠[]:=by
  intro n;unfold mM;dsimp only;split
  ·exact P
  ·exact b _
 unfold bb;dsimp only;split
 ·exact a D
 ·split
  ·exact P
  ·exact a _
def Hl{D:an}{l:List aj}(n:b4.bQ≠[]):(bu b4 D l).2.1.bQ≠[]:=by
 unfold bu;dsimp only;have P:(if b4.size<=b4.bytes then bb b4 D else(0,b4,D)).2.1.bQ≠[]:=by
  split
  ·exact Jz n
  ·exact n
 generalize(if b4.size<=b4.bytes then bb b4 D else(0,b4,D))=a at P⊢;split
 ·exact n
 split
 ·exact n
 split
 ·exact P
 split
 ·exact P
 ·exact P
def Rq(c:Row jF 96 b f d a L):∀n∈L,n.Ok:=λn e=>by
 obtain⟨P,g,rfl⟩:=List.getElem_of_mem e;obtain⟨i,j,k,-,-,-,-,l,m,o,-,-,h⟩:=c.el P L[P] (Qq g);exact h
def aw.JA:∀{l:List aj} {S:aw} {n:aj},n∈S.l->n∈(S.fN l).l
 |[],S,n,P=>P
 |e::l,S,n,P=>aw.JA (l:=l) (S:=(S.add e).2) (by
  rcases S.jb e with⟨-,a⟩|⟨b,-⟩
  ·rw[a];exact P
  ·rw[b];exact(dd e S.l).mem_iff.2 (QJ _ P))
def JB{n:bG}(a:H.Cl)(b:H.n=n.ay.toNat)(P:List aj):fg n H P=H.fN P:=by
 unfold fg;rw[aw.PI,<-b,a.Vs]
section
variable {w w' w0:World} {p:Nat} {F E T:ZN} {cls:Nat->Nat} {h:jD} {c:bG} {self:Int} {X:aR} {evs:List aj} {ea:YQ} {en ec:Nat}
def gg.ay(n:gg c self):c.ay=(c.ay.toNat:Int)/\c.ay.toNat<=64/\1<=c.ay.toNat:=by
 have:=n.right;unfold fq within at this;simp only[QK,Zk]at this;omega
def JC(s:cA w F cls p h c self X)(b0:gg c self)(hr:Row jF 96 w E ea en evs)(t:∀n,E n->n<w.heap.size)(hl:X.S.l.length+evs.length<=20000000):
  YX 136 #[ZL p,.slice ea en ec] w (Ok λa0 w'=>∃L b,a0= ZL L/\ck w' L b (fg c X.S evs)/\(∀n,b n->w.heap.size<=n)/\ai w w'):=by
 obtain⟨b1,b2,c6⟩:=b0.ay;have eh:=(s.at' 3).1;refine ox ⟨p,0,rfl,_,ae s.bk rfl,?_⟩;rw[b1];refine PC.ok (FL b2) ?_;rintro _ w7 ⟨u,j,rfl,M,v,k⟩;have f:=cA.ah s k;refine⟨_,rfl,p,0,rfl,_,ae f.bk rfl,PC.ok (rE (eh.ah k) oM) ?_⟩;rintro _ c7 ⟨a2,x,c1,G,rfl,g,y,l⟩;have N:=M.aC;have c8:=g.aC;have z7:=k.size;have c9:=y.size;have O:=k.then y;refine⟨_,_,_,rfl,Ah g Ke (hr.ah O) (λn P=>⟨by have:=t n P;omega,λz=>by have:=t n P;have:=l n (g.self n z);omega⟩) (by unfold aK;omega) (by unfold maxLen;omega) λa' c' m Q A B b3 _=>⟨_,_,_,rfl,?_⟩⟩;have b4:=A.len dC;have d0:=B.size;rw[QX]at b4;have a3:Row jF 96 m Q a' (x+en) (X.S.l++evs):=A.row dC (by rw[QX];unfold aK;omega);have R:=A.aC;have S:∀n,Q n->¬j n:=λn P o=>by
  have d:=v n o;have h6:=N n o;rcases b3 n P with f|f|f
  ·have:=l n f;omega
  ·have:=t n f;omega
  ·omega
 have a4:ai w m:=O.new B λn P=>.inr (by have:=l n (g.self n P);omega);have a5:=(M.ah y).af B λn P z=>by have:=N n P;have:=l n (g.self n z);omega
 refine⟨λT C w'=>∃(a:Nat) (b:ZN),C=a/\a<=x+en/\T=x+en-a/\ck w' u b ((⟨c.ay.toNat,[]⟩:aw).fN ((X.S.l++evs).take a))/\(∀n,b n->j n\/m.heap.size<=n)/\ak j m w',⟨_,0,j,rfl,Qj _,rfl,a5,λn P=>.inl P,ak.refl _⟩,?_⟩;rintro T _ _ U ⟨a,b,rfl,hj,rfl,H,q,r⟩;have d1:=r.size;refine al.dec (λd2=>?_) (λd3=>?_)
 ·obtain⟨e,V⟩:∃e,(X.S.l++evs)[a]? =some e:=⟨_,Qq (by rw[QX];omega)⟩
  obtain⟨n,a1,es,ha,d4,d5,b5,I,J,K,rfl,b6,a7⟩:=(a3.af r S).el a e V;refine⟨n,a1,ha,oM,oM,bA (es:=aE e I J K) (k:=10) (aX _ _ _ _) rfl (λC ht=>by rw[Qx];exact b5 C ht) (PA.mk λd6 b7 d7 b8=>az (aX e I J K) b8 rfl λb9 c2 d8 c3=>au (aX e I J K) c3 ?_)⟩;have i:ai U b9:=b7.new c2 λn P=>.inr (by have P:n=U.heap.size:=P;omega);have W:=aw.mZ ((X.S.l++evs).take a) ⟨c.ay.toNat,[]⟩;rw[Qy,QX]at W;simp only[ZQ]at W;refine PC.ok (uA (H.ah i) (b6.ah i) (λn P=>⟨by have:=R n P;have:=i.size;omega,λo=>?_⟩) a7 oM) ?_
  ·rcases q n o with d|d
   ·exact S n P d
   ·have:=R n P;omega
  rintro _ c4 ⟨rfl,Y,c5,Z⟩;refine⟨_,rfl,_,oM,a+1,Y,aq oM,oM,rfl,?_,λn P=>?_,(r.ah i).new Z.af λn P=>q n P⟩
  ·rw[Qw,V]
   show ck c4 u Y (aw.fN _ ((X.S.l++evs).take a++[e]));rw[aw.rF];exact c5
  ·rcases Z.new n P with d|d
   ·exact q n d
   ·have:=i.size;exact .inr oM
 ·rw[Qz (by rw[QX];omega)]at H
  exact Ok.mk ⟨u,b,rfl,H,λn P=>(q n P).elim (v n) λd=>oM,a4.new r λn P=>.inr (v n P)⟩
end
section
variable {w w' w0:World} {p:Nat} {F E T:ZN} {cls:Nat->Nat} {h:jD} {c:bG} {self:Int} {X:aR} {evs lB:List aj} {ea:YQ} {en ec:Nat}
def Env.sub(P:Env w0 w F)(a:∀n,f n->F n):Env w0 w f:=⟨P.nY,P.laid,P.gr,λn b=>P.aC n (a n b)⟩
def Rr(n:H.OK)(a:q∈H.l)(b:O∈H.l)(c:aZ q=aZ O):q=O:=by
 have P:=n.get a;have d:=n.get b;rw[c,d]at P;exact(XJ P).symm
def CA(v:aP w F cls (lG p (h.cells c self) h c X lB))(j:Env w0 w F)(R:∀(x:Nat) (l m:aj),lB[x]? =some l->X.S.l[x]? =some m->aZ l=aZ m->l=m)(y:X.S.l.length<=20000000){κ:ZR}(o:∀w' f P,cA w' f P p h c self X->bB F w f w'->κ (ZH 0) w'):
  ∀ph,aV w ph->∃q:ZN,(∃r z,(ZM p:YQ)=some ⟨r,z,none⟩/\(¬q r/\(∃(A:YQ),ph.cell? ⟨r,z+14,none⟩=some (.pointer A)/\(∃B C,(ZM p:YQ)=some ⟨B,C,none⟩/\(∃(E:YQ),ph.cell? ⟨B,C+13,none⟩=some (.pointer E)/\
   PC ZP 59 #[.pointer E] ph (λS b=>∃(H:YQ) (I:Nat) (J:Nat),S= .slice H I J/\(ak q ph b/\PC ZP 75 #[.pointer A,.slice H I J] b (λT g=>∃(U:Int),T= ZH U/\(ak q b g/\κ (ZH 0) g)) a6)) h8))))):=by
 intro ph V;have s:ai w ph:=V.af;have i:=aP.ah v bM s;have K:=(i.at' 0).2;refine⟨λn=>F n/\cls n=4,p,0,rfl,λW=>?_,_,ae K rfl,p,0,rfl,_,ae K rfl,PC.ok (rE (show ck ph h.sp (λn=>F n/\cls n=3) X.S from(i.at' 3).1) y) ?_⟩
 ·have:=W.2
  have Y:=(show(F p/\cls p=0)/\_ from v.at' 0).1.2;rw[Y]at this;cases this
 rintro _ b ⟨a2,a3,cc,G,rfl,t,e,Z⟩;have b5:=e.size;have a0:=i.aC;have L:=aP.ah i bM e;have a8:=t.jH;have a1:cV b h.bp (λn=>F n/\cls n=4) c.decl c.every.toNat lB:=L.at' 4;refine⟨_,_,_,rfl,ai.af e,PC.ok (HG a1 j.nY ((j.gr.then s).then e) (λn d=>j.aC n d.1) (t.row dC (by unfold aK;omega)) a8 (λn d=>⟨t.aC n d,λhf=>by have:=a0 n hf.1;have:=Z n d;omega⟩) y R) ?_⟩;rintro _ g ⟨k,rfl,G4,M,N⟩;obtain⟨f,P,u,a,-,-⟩:=L.fK bM (k:=4) (G':=G4) (C2:=lG p (h.cells c self) h c X X.S.l) N M.aC M λO G hj hc=>by
  rcases O with _|_|_|_|_|_|_|O<;>first|exact hc|exact Zz rfl hj
 have Q:ai w b:=s.then e;exact⟨_,rfl,N.af,o g f P u ⟨(ai.af Q).then a.af,λn d=>(a.new n d).imp id λh1=>by have:=Q.size;omega⟩⟩
def Jr(x:cA w F cls p h c self X)(c1:gg c self)(y:Env w0 w F){V:eJ}(b3:X.log=some V)(Y:Row jF 96 w E ea en evs)(Z:∀P,E P->P<w.heap.size/\¬(F P/\cls P=2))(hl:X.S.l.length+evs.length<=20000000):
  YX 81 #[ZL p,.slice ea en ec] w (Ok λz w'=>z= ZH (fW c X evs).1/\∃A r d,cA w' r d p A c self (fW c X evs).2/\bB F w r w'/\A.wp=h.wp):=by
 obtain⟨b,D,c2,n,i⟩:=X;simp only at b3 hl;subst b3;obtain⟨hS,B,hn⟩:=(show ck w h.sp (λP=>F P/\cls P=3) b/\b.Cl/\b.n=c.ay.toNat from x.at' 3)
 have c3:=x.aC;obtain⟨e1,C,H,a0⟩:=DL.OB (show DL w (λP=>F P/\cls P=2) h.dp h.lp D (some V)from x.at' 2) (y.sub λP a=>a.1) λP a=>c3 P a.1;have c4:=Rq Y;have a2:∀P,E P->P<w.heap.size:=λP a=>(Z P a).1;refine ot ⟨p,0,rfl,_,ae x.bk rfl,?_⟩;rw[C];refine PC.ok (Lz y.laid a0 H Y a2 oM) ?_;rintro _ w7 ⟨rfl,a1,k7⟩;have I:=Hl (D:=D) (l:=evs) H;have s:∀{a3},(if(bu V D evs).1≠0 then((bu V D evs).1,({S:=b,D:=(bu V D evs).2.2,log:=some (bu V D evs).2.1,waits:=n,dO:=i}:aR))else
   if((bu V D evs).2.2.sync (bu V D evs).2.1.last).1≠0 then(((bu V D evs).2.2.sync (bu V D evs).2.1.last).1,{S:=b,D:=((bu V D evs).2.2.sync (bu V D evs).2.1.last).2,log:=some (bu V D evs).2.1,waits:=n,dO:=i})else
   (0,{S:=fg c b evs,D:=((bu V D evs).2.2.sync (bu V D evs).2.1.last).2,log:=some (bu V D evs).2.1,waits:=n,dO:=i}))=a3->fW c ⟨b,D,some V,n,i⟩ evs=a3:=λ{a3} hq=>hq
 generalize e2:bu V D evs=ap at a1 I s;obtain⟨e3,t,D7⟩:=ap;simp only at a1 I s;obtain⟨G7,J,a4,a5,-⟩:=DL.Hh (Y:=λ_=>False) (a1.mono λP a=>a.elim id False.elim) k7 I;obtain⟨F7,k,K,e,-,-,c5⟩:=x.fK bM (k:=2) (G':=G7) (C2:=lG p (h.cells c self) h c ⟨b,D7,some t,n,i⟩ b.l) a4 a5 (by rw[<-C]at J;exact J) λl G L M=>by
  rcases l with _|_|_|_|_|_|_|l<;>first|exact M|exact Zz rfl L
 refine⟨_,rfl,al.dP (λa6=>Ok.mk ?_) (λh0=>?_)⟩
 ·rw[s (Zx a6)]
  exact⟨rfl,h,F7,k,K,e,rfl⟩
 simp only at h0;have c6:=y.fK e;obtain⟨q2,m,-,u⟩:=DL.OB (show DL w7 (λP=>F7 P/\k P=2) h.dp h.lp D7 (some t)from K.at' 2) (c6.sub λP a=>a.1) λP a=>K.aC P a.1;refine⟨p,0,rfl,_,ae (K.at' 0).2 rfl,?_⟩;rw[m];refine PC.ok (Jg y.laid u I) ?_;rintro _ b4 ⟨rfl,a7,c7⟩;generalize e4:D7.sync t.last=sy at a7 s;obtain⟨s1,S⟩:=sy;simp only at a7 s;obtain⟨a8,o,g,N,-⟩:=DL.Hh (Y:=λ_=>False) (a7.mono λP a=>a.elim id False.elim) c7 I;obtain⟨O,v,f,j,-,a9,T⟩:=K.fK bM (k:=2) (G':=a8) (C2:=lG p (h.cells c self) h c ⟨b,S,some t,n,i⟩ b.l) g N (by rw[<-m]at o;exact o) λl G L M=>by
  rcases l with _|_|_|_|_|_|_|l<;>first|exact M|exact Zz rfl L
 have b0:=e.trans j;refine⟨_,rfl,al.dP (λa6=>Ok.mk ?_) (λh1=>?_)⟩
 ·rw[s ((Zq (by simpa using h0)).trans (Zx a6))]
  exact⟨rfl,h,O,v,f,b0,rfl⟩
 simp only at h1;have c8:=s ((Zq (by simpa using h0)).trans (Zq (by simpa using h1)));rw[c8];have c9:Row jF 96 b4 E ea en evs:=by
  refine(Y.af a4.af λP a=>(Z P a).2).af g.af λP a hf=>?_;rcases a4.new P (c5▸hf)with h5|h5
  ·exact(Z P a).2 h5
  ·have:=a2 P a;omega
 refine PC.ok (JC f c1 c9 (λP a=>by have:=a2 P a;have:=b0.af.size;omega) hl) ?_;rintro _ d0 ⟨U,F2,rfl,b5,d1,d2⟩;have d3:(fg c b evs).n=c.ay.toNat:=aw.PJ _ _;have b1:=JB B hn evs;have b6:(fg c b evs).Cl:=by rw[b1];exact aw.Cl.fN B c4
 obtain⟨F3,Q,b7,q,d4,-⟩:=f.dT bM (k:=3) (w':=d0) (G':=F2) (C2:=lG p (h.cells c self) {h with sp:=U} c ⟨fg c b evs,S,some t,n,i⟩ b.l) (ai.af d2) (λP a=>.inr (d1 P a)) b5.aC ⟨b5,b6,d3⟩ λl G L M=>by
  rcases l with _|_|_|_|_|_|_|l<;>first|exact M|exact Zz rfl L
 refine⟨_,rfl,p,0,rfl,PS.mk (b7.at' 0).2 sM λb8 b9 e5 d5=>?_⟩;have d6:aP b8 F3 Q (lG p (({h with sp:=U}:jD).cells c self) {h with sp:=U} c ⟨fg c b evs,S,some t,n,i⟩ b.l):=cA.store b7 b9 d5;have d7:bB O b4 F3 b8:=⟨q.af.then (b9.mono λP _ R=>by have R:P=p:=R;rw[R];exact(f.at' 0).1.1),q.new⟩
 have c0:=b0.trans d7;have d8:∀W∈b.l,W∈(fg c b evs).l:=λW hx=>by rw[b1];exact aw.JA hx
 have d9:(fg c b evs).l.length<=20000000:=by rw[b1];exact Xx (aw.mZ _ _) hl
 exact CA d6 (y.fK c0) (λe6 W e7 hx hy R=>Rr b6.ok (d8 W (QZ hx)) (QZ hy) R) d9 (κ:=λz w'=>Ok (λz w'=>z= ZH 0/\∃A r d,cA w' r d p A c self ⟨fg c b evs,S,some t,n,i⟩/\bB F w r w'/\A.wp=h.wp) (.returned z) w')
  λw' r d b2 e0=>Ok.mk ⟨rfl,{h with sp:=U},r,d,b2,c0.trans e0,rfl⟩
end
def Cy{D:an}{size:Int}(n:(eK D size).no=0):(eK D size).V.bQ≠[]:=by
 revert n
 unfold eK;generalize jR (told D) [] (vP D size) D=b;unfold oL;split
 ·rename_i a;intro n;exact Zz n a
 split
 ·intro n;exact td n
 rename_i P;split
 ·intro _;exact P
 ·intro _;exact P
abbrev xP(n:jD)(P:bG)(a:Int)(b c d:YQ):Array Value:= #[ZH P.ay,ZH P.vE,ZH P.bU,ZH P.chunk,ZH P.buffer,ZH P.cP,ZH P.every,ZH P.start,.slice n.ta n.tn n.tc,.slice n.pa n.pn n.pc,ZH a,
 ZL n.dp,.pointer b,.pointer c,.pointer d,ZL n.wp,ZL n.tp]
def recC(c:Nat)(d:Array Value)(P:jD)(b:bG)(a:aR)(e:Bool):Nat->World->(ZN)->Prop
 |0=>λn G=>G c/\n.heap[c]? =some (.cells d 105 (0,0))
 |1=>λn G=>bg n G b.decl P.ta P.tn P.pa P.pn
 |2=>λn G=>DL n G P.dp P.lp a.D a.log
 |3=>λn G=>e=true->ck n P.sp G a.S/\a.S.Cl/\a.S.n=b.ay.toNat
 |5=>λn G=>Od n G P.wp b.buffer.toNat a.waits
 |6=>λn G=>dL n P.tp G a.dO
 |_=>λ_ _=>True
section
variable {w w' w0:World} {p:Nat} {F E T:ZN} {cls:Nat->Nat} {h:jD} {c:bG} {self:Int} {X:aR} {evs lB:List aj} {ea:YQ} {en ec:Nat}
def gV:ku (recC p o h c X K):=by
 intro k w w' G T n a P
 match k,n with
 |0,n=>exact⟨n.1,a.get n.2 (P p n.1)⟩
 |1,n=>exact bg.af n a P
 |2,n=>exact DL.af n a P
 |3,n=>exact λe=>⟨ck.af (n e).1 a P,(n e).2⟩
 |4,n=>trivial
 |5,n=>obtain⟨i,D,j,f,g⟩:=n;exact⟨i,D,j.af a (λb d=>P b (f b d)) λb d=>P b (g b d),f,g⟩
 |6,n=>exact dL.af n a P
 |k+7,n=>trivial
def yL{z1 z2 z3:YQ}(T:aP w F cls (recC p (xP h c self z1 z2 z3) h c X false))(L:gg c self)(A:Env w0 w F):
  YX 46 #[ZL p] w (Ok λB w'=>B= ZH (iG c X).1/\(iG c X).2.S.l.length<=16777216/\∃U q d,cA w' q d p U c self (iG c X).2/\bB F w q w'):=by
 obtain⟨g0,d2,j5⟩:=L.ay;have g1:=T.aC;have V:F p/\cls p=0:=(T.at' 0).1;have j0:1<=c.every:=by
  have:=L.right;unfold fq at this;simp only[QK,Zk]at this;omega
 refine lC λw3 d3=>?_;have W:ai w w3:=d3.af;have M:=aP.ah T gV W;have N:=(M.at' 0).2;refine⟨λ_=>False,p,0,rfl,_,ae N rfl,p,0,rfl,id,_,_,_,_,_,_,ae N rfl,ae N rfl,p,0,rfl,id,_,ae N rfl,?_⟩;rw[g0];refine PC.ok (FL d2) ?_;rintro _ d4 ⟨e,F2,rfl,Y,d5,C⟩;have a9:=W.then C;have d6:=aP.ah M gV C;refine⟨_,rfl,C,PC.ok (Po L.decl L.every ((A.nY.ah A.gr).ah a9) (show bg d4 (λn=>F n/\cls n=1) c.decl h.ta h.tn h.pa h.pn from d6.at' 1) λn P=>d6.aC n P.1) ?_⟩;rintro _ g2 ⟨g,F4,rfl,Z,d7,b7⟩;have y3:=W.size;have j6:=C.size;have j7:=b7.size;rw[show(max 1 c.every).toNat=c.every.toNat by congr 1;omega]at Z;have j1:=Y.aC;obtain⟨Fa,d1,E,b0,g4,-⟩:=M.Ed gV (k:=3) (w':=d4) (G':=F2) (C2:=recC p (xP h c self z1 z2 z3) {h with sp:=e} c {X with S:=⟨c.ay.toNat,[]⟩} true) (ai.af C) (λn P l=>by have:=d5 n P;have:=g1 n l;omega) Y.aC (λ_=>⟨Y,aw.Cl.new d2,rfl⟩) λa G i j=>by
  rcases a with _|_|_|_|_|_|_|a<;>first|exact j|exact Zz rfl i
 obtain⟨u,r,b8,b1,g5,-⟩:=E.Ed gV (k:=4) (w':=g2) (G':=F4) (C2:=lG p (xP h c self z1 z2 z3) {h with sp:=e,bp:=g} c {X with S:=⟨c.ay.toNat,[]⟩} []) (ai.af b7) (λn P l=>by have:=d7 n P;have:=E.aC n l;omega) Z.aC Z λa G i j=>by
  rcases a with _|_|_|_|_|_|_|a<;>first|exact j|exact j rfl|exact Zz rfl i
 have d8:∀n,u n->F n\/w.heap.size<=n:=λn P=>by
  rcases g5 n P with k|k
  ·rcases g4 n k.1 with h6|h6
   ·exact .inl h6.1
   ·exact .inr (by have:=d5 n h6;omega)
  ·exact .inr (by have:=d7 n k;omega)
 refine⟨_,rfl,p,0,rfl,PS.mk (b8.at' 0).2 sM λj8 d9 j9 g6=>⟨p,0,rfl,PS.mk g6 sM λb9 e0 k0 g7=>λc1 g8=>?_⟩⟩;have j2:u p/\r p=0:=(b8.at' 0).1;have e1:ai b9 c1:=g8.af;have g9:aP b9 u r (lG p (xP h c self z1 (ZM e) (ZM g)) {h with sp:=e,bp:=g} c {X with S:=⟨c.ay.toNat,[]⟩} []):=cA.store b8 (d9.then e0) g7;have b2:bB F w u b9:=⟨((ai.af a9).ah b7).then ((d9.then e0).mono λn _ f=>by have f:n=p:=f;rw[f];exact V.1),d8⟩
 have H:=aP.ah g9 bM e1;have O:bB F w u c1:=⟨b2.af.ah e1,b2.new⟩
 have e2:=A.fK O;have e3:=(H.at' 0).2;have h4:=DL.vE (show DL c1 (λn=>u n/\r n=2) h.dp h.lp X.D X.log from H.at' 2) (e2.sub λn P=>P.1);refine⟨p,0,rfl,_,ae e3 rfl,p,0,rfl,_,ae e3 rfl,PC.ok (IC A.laid h4) ?_⟩;have a0:∀{b},(if(eK X.D c.bU).no≠0 then((eK X.D c.bU).no,{X with D:=(eK X.D c.bU).D,log:=none,S:=⟨c.ay.toNat,[]⟩})
   else(0,{X with D:=(eK X.D c.bU).D,log:=some (eK X.D c.bU).V,S:=(⟨c.ay.toNat,[]⟩:aw).fN (eK X.D c.bU).out}))=b->iG c X=b:=λ{b} hq=>hq
 have b3:=Cy (D:=X.D) (size:=c.bU);generalize eK X.D c.bU=b at a0 b3;rintro _ h7 (⟨I,rfl,e5,c3⟩|⟨I,s,e9,a1,cc,G,rfl,c4,h8,c3,hG,hq,j3⟩)
 ·obtain⟨G2,c5,a2,c6,-⟩:=DL.MY (Y:=λ_=>False) (e5.mono λn P=>P.elim id False.elim) c3
  obtain⟨t,Q,v,a3,-,-⟩:=H.fK bM (k:=2) (G':=G2) (C2:=lG p (xP h c self z1 (ZM e) (ZM g)) {h with sp:=e,bp:=g,lp:=none} c {X with S:=⟨c.ay.toNat,[]⟩,D:=b.D,log:=none} []) a2 c6 (by
    obtain⟨Fd,h1,h2,M⟩:=c5;exact⟨Fd,h1,h2,rfl⟩) λa G i j=>by
   rcases a with _|_|_|_|_|_|_|a<;>first|exact j|exact Zz rfl i
  refine⟨_,_,_,_,_,rfl,p,0,rfl,PS.mk (v.at' 0).2 sM λx y e4 c7=>al.dP (λ_=>Ok.mk ?_) (λh0=>Zz h0 I)⟩;rw[a0 (Zx I)];refine⟨rfl,Qj _,{h with sp:=e,bp:=g,lp:=none},t,Q,cA.store v y c7,?_⟩;have J:=O.trans a3;exact⟨J.af.then (y.mono λn _ f=>by have f:n=p:=f;rw[f];exact V.1),J.new⟩
 ·obtain⟨G2,c5,a2,c6,hY⟩:=DL.Hh h8 c3 (b3 I)
  obtain⟨t,Q,v,a3,h9,-⟩:=H.fK bM (k:=2) (G':=G2) (C2:=lG p (xP h c self z1 (ZM e) (ZM g)) {h with sp:=e,bp:=g,lp:=ZM s} c {X with S:=⟨c.ay.toNat,[]⟩,D:=b.D,log:=some b.V} []) a2 c6 c5 λa G i j=>by
   rcases a with _|_|_|_|_|_|_|a<;>first|exact j|exact Zz rfl i
  refine⟨_,_,_,_,_,rfl,p,0,rfl,PS.mk (v.at' 0).2 sM λx y e4 c7=>al.dP (λh0=>Zz rfl h0) (λ_=>?_)⟩;have f0:aP x t Q (lG p (({h with sp:=e,bp:=g,lp:=ZM s}:jD).cells c self) {h with sp:=e,bp:=g,lp:=ZM s} c {X with S:=⟨c.ay.toNat,[]⟩,D:=b.D,log:=some b.V} []):=cA.store v y c7;have J:=O.trans a3;have b4:bB F w t x:=⟨J.af.then (y.mono λn _ f=>by have f:n=p:=f;rw[f];exact V.1),J.new⟩
  have j4:=O.af.size;have c8:∀n,G n->¬t n:=λn P l=>by
   rcases h9 n l with k|k
   ·have:=H.aC n k.1;have:=hG n P;omega
   ·exact hY n k P
  have i0:∀n,G n->n≠p:=λn P f=>c8 n P (f▸(v.at' 0).1.1);have b5:=c4.aC;have k1:=c4.len dC;have b6:Row jF 96 x G e9 a1 b.out:=vz.row (((c4.af y λn P f=>i0 n P f)).row dC (by unfold aK;omega));have k2:x.heap.size=h7.heap.size:=e4;rw[a0 (Zq (by simpa using I))];have f8:=Rq b6;refine⟨λc0 a4 w'=>∃(a:Nat) (R:ZN) (e6:Nat->Nat),a4=a/\a<=a1/\c0=a1-a/\aP w' R e6 (lG p (({h with sp:=e,bp:=g,lp:=ZM s}:jD).cells c self) {h with sp:=e,bp:=g,lp:=ZM s} c {X with S:=(⟨c.ay.toNat,[]⟩:aw).fN (b.out.take a),D:=b.D,log:=some b.V} [])/\bB t x R w',
   ⟨_,0,t,Q,rfl,Qj _,rfl,f0,bB.refl _ _⟩,?_⟩
  rintro c0 _ _ e7 ⟨a,R,e6,rfl,i,rfl,c9,z⟩;have i1:∀n,G n->¬R n:=λn P l=>by
   rcases z.new n l with k|k
   ·exact c8 n P k
   ·have:=b5 n P;omega
  have d0:=aw.mZ (b.out.take a) ⟨c.ay.toNat,[]⟩;rw[Qy]at d0;simp only[ZQ]at d0;refine al.dec (λk4=>?_) (λk5=>?_)
  ·obtain⟨m,S⟩:∃m,b.out[a]? =some m:=⟨_,Qq oM⟩
   obtain⟨n,f1,es,ha,k6,k7,i2,xa,xn,xc,rfl,i3,c2⟩:=(b6.af z.af c8).el a m S;refine⟨n,f1,ha,oM,oM,bA (es:=aE m xa xn xc) (k:=10) (aX _ _ _ _) rfl (λa4 ht=>by rw[Qx];exact i2 a4 ht) (PA.mk λk8 i4 k9 i5=>az (aX m xa xn xc) i5 rfl λl0 i6 l3 i7=>λi8 e8=>?_)⟩;have K:ai e7 i8:=(i4.new i6 λn P=>.inr (by have P:n=e7.heap.size:=P;omega)).then e8.af;have a5:=aP.ah c9 bM K;have l4:=z.af.size;obtain⟨f2,f4,f5⟩:=a5.at' 3;refine⟨p,0,rfl,_,ae (a5.at' 0).2 rfl,au (aX m xa xn xc) ((e8.af (S:=λ_=>False)).get i7 id) (PC.ok (uA f2 (i3.ah K) (λn P=>⟨by have:=b5 n P;have:=K.size;omega,λl=>i1 n P l.1⟩) c2 (by show((⟨c.ay.toNat,[]⟩:aw).fN (b.out.take a)).l.length<_;omega)) ?_)⟩;rintro _ l5 ⟨rfl,F8,f3,f6⟩;have i9:((⟨c.ay.toNat,[]⟩:aw).fN (b.out.take (a+1)))=(((⟨c.ay.toNat,[]⟩:aw).fN (b.out.take a)).add m).2:=by
    rw[Qw,S];exact aw.rF ..
   obtain⟨F9,a6,a7,o,-⟩:=a5.fK bM (k:=3) (G':=F8) (C2:=lG p (({h with sp:=e,bp:=g,lp:=ZM s}:jD).cells c self) {h with sp:=e,bp:=g,lp:=ZM s} c {X with S:=(⟨c.ay.toNat,[]⟩:aw).fN (b.out.take (a+1)),D:=b.D,log:=some b.V} []) f6 f3.aC (by rw[i9];exact⟨f3,f4.add c2,(aw.TA _ _).trans f5⟩) λa G i j=>by
    rcases a with _|_|_|_|_|_|_|a<;>first|exact j|exact Zz rfl i
   exact⟨_,rfl,_,oM,a+1,F9,a6,aq oM,oM,rfl,a7,z.trans ⟨(ai.af K).then o.af,λn P=>(o.new n P).imp id λh1=>by have:=K.size;omega⟩⟩
  ·rw[Qz oM]at c9 d0
   exact CA c9 (A.fK (b4.trans z)) (λf9 m g3 S=>by simp at S) (by show((⟨c.ay.toNat,[]⟩:aw).fN b.out).l.length<=_;omega) (κ:=λB w'=>Ok (λB w'=>B= ZH 0/\((⟨c.ay.toNat,[]⟩:aw).fN b.out).l.length<=16777216/\∃U q d,cA w' q d p U c self {X with S:=(⟨c.ay.toNat,[]⟩:aw).fN b.out,D:=b.D,log:=some b.V}/\bB F w q w') (.returned B) w')
    λw' q d a8 f7=>Ok.mk ⟨rfl,oM,_,q,d,a8,(b4.trans z).trans f7⟩
end
structure eT where
 code:Int
 id:Int×Int
 st:mJ
 FV:List cC
 rows:List dy
 more:Bool
def eU(n:eT)(P:YQ)(a b:Nat)(c:YQ)(d e:Nat)(f:YQ)(g h:Nat):List Value:=
 [ZH n.code,ZH n.id.1,ZH n.id.2,ZH n.st.version,.slice P a b,.slice c d e,.slice f g h,.bool n.more]
def gh(n:eT)(P:YQ)(a b:Nat)(c:YQ)(d e:Nat)(f:YQ)(g h:Nat):ij ZP 53 (eU n P a b c d e f g h)=true:=kR
def dv(h:World)(n:eT)(i:Value)(P:World):Prop:=∃(b:YQ) (c j:Nat) (d:YQ) (e k:Nat) (f:YQ) (g l:Nat) (G:ZN),i= .agg (eU n b c j d e k f g l).toArray/\
 Row eG 32 P G b c n.st.cells/\Row wA 120 P G d e n.FV/\Row HA 24 P G f g n.rows/\∀a,G a->h.heap.size<=a/\a<P.heap.size
abbrev aY(n:Int):eT:=⟨n,(0,0),⟨0,[]⟩,[],[],false⟩
abbrev Iq(id:Int×Int):eT:=⟨0,id,⟨0,[]⟩,[],[],false⟩
structure ly.Ok (x:ly):Prop where
 aU:aJ x.aU
 agg:aJ x.agg
 field:aJ x.field
 op:aJ x.op
 arg:aJ x.arg
 key:aJ x.key
section
variable {w w' w0:World} {p:Nat} {F E T:ZN} {cls:Nat->Nat} {h:jD} {c:bG} {self:Int} {X:aR} {evs lB:List aj} {ea:YQ} {en ec:Nat}
def dv.plain{n:eT}(P:n.st.cells=[])(a:n.FV=[])(b:n.rows=[]):dv w n (.agg (eU n none 0 0 none 0 0 none 0 0).toArray) w':=
 ⟨none,0,0,none,0,0,none,0,0,λ_=>False,rfl,by rw[P];exact c_ _ _,by rw[a];exact c_ _ _,by rw[b];exact c_ _ _,λd c=>c.elim⟩
def row_one{n:jJ j}{bytes P:Nat}{w:World}{m:Nat×Nat}{d:j}{D:ZN}(e:w.heap[P]? =some (.cells o g m))(f:n.rep w D d o.toList)(h:bytes<=1000):Row n bytes w (λa=>a=P\/D a) (ZM P) 1 [d]:=by
 have p:=n.len f;refine⟨rfl,by unfold aK;omega,λb q c=>?_⟩;obtain rfl:b=0:=by
  rcases b with _|b
  ·rfl
  ·simp at c
 simp at c;subst c;refine⟨P,0,o.toList,rfl,ax e,.inl rfl,λi k=>?_,n.mono f λa h=>.inr h⟩;have l:i<o.size:=by rw[<-p]at k;simpa using k
 rw[ae e (v:=o[i]) (by simp[l])];simp[l]
def UY(i:H.OK){M:Int}(d:0<=M)(e:∀n∈H.l,n.aA<=M):H.top<=M:=by
 have:∀(a:List aj) (P:Int),P<=M->(∀n∈a,n.aA<=M)->a.foldl (λP n=>max P n.aA) P<=M:=by
  intro a
  induction a with
  |nil=>intro P b _;exact b
  |cons n a f=>
   intro P b c;refine f _ ?_ λg h=>c g (QJ _ h);have:=c n (QV ..);show max P n.aA<=M;omega
 exact this H.l 0 d e
def LN[Decidable M]{n P:aj×Bool×Int}(a:n.1.Ok)(b:P.1.Ok):(if M then n else P).1.Ok:=by
 split
 ·exact a
 ·exact b
def JD(n:d7.Ok)(c:aJ e)(f:aJ m)(P:∀d∈v,aJ d):(aS d7 e v m).2.Ok:=by
 have g:=CB P e;unfold aS;dsimp only
 by_cases a:e<0\/(v.length:Int)<=e\/m<0
 ·rw[Zx a];exact CC
 rw[Zq a]
 by_cases b:fD v e=9223372036854775807\/m=9223372036854775807
 ·rw[Zx b];exact CC
 rw[Zq b];refine⟨c,?_,?_,EZ P sM,n.aU,n.agg,n.field,n.op,n.arg,n.key⟩
 ·show aJ (fD v e+1);unfold aJ at*;omega
 ·show aJ (m+1);unfold aJ at*;omega
def Tc(d:H.l.length<=20000000):∀P∈H.vec,aJ P:=λP b=>by
 obtain⟨c,n,rfl⟩:=List.getElem_of_mem b;rw[H.bN]at n;have a:=H.oS n;rw[Qq (by rw[H.bN];exact n)]at a;rw[XJ a];have:=H.Rt c;unfold aJ;omega
def MZ(n:H.OK):aJ H.top:=by
 have b:=UY n (M:=9223372036854775807) oM λP a=>by have:=(n.ok P a).aA;unfold aJ at this;omega
 have c:=H.LO;unfold aJ;omega
def Td(P:d7.Ok)(n:H.OK)(a:aJ e)(g:aJ m)(b:H.l.length<=20000000):(rq R H d6 e m d7).1.Ok:=by
 have c:aJ (max H.top m):=by
  have h:=MZ n;unfold aJ at*;omega
 rw[xQ];refine LN CC ?_
 cases d:H.keyed d7.key with
 |some f=>exact n.ok f (List.mem_of_find?_eq_some d)
 |none=>exact LN CC (LN CC (JD P a c (Tc b)))
end
section
variable {w w' w0:World} {p:Nat} {F E T:ZN} {cls:Nat->Nat} {h:jD} {c:bG} {self:Int} {X:aR}
def gg.We(n:gg c self):0<=self/\self<c.ay:=by
 have:=n.right;unfold fq within at this;simp only[QK,Zk]at this;omega
def ye(hr:bH w p F c self X)(J:Env w0 w F)(hx:d7.Ok)(hl:X.S.l.length+1<=20000000):
  YX 50 #[ZL p,wK d7] w (Ok λa3 w'=>∃d,dv w (if(et c self X d7).1≠0 then aY (et c self X d7).1 else Iq (et c self X d7).2.1) a3 w'/\bH w' p d c self (et c self X d7).2.2/\bB F w d w'):=by
 have b8:=hr;obtain⟨q,h,cls,l⟩:=hr;have u:=l.aC;have e3:=(l.Jq)
 have g7:=u p e3.1;have c0:aJ self:=by have:=q.We;have:=q.ay;unfold aJ;omega
 refine lA (PA.mk λC e4 g8 e5=>PA.mk λb2 c2 g9 d6=>?_);have a1:=e4.then c2;have e6:=cA.ah l a1;have E:∀{f:World} {d:ZN} {k:aR} {y:eT},y.st.cells=[]->y.FV=[]->y.rows=[]->(∃r,f.heap[C.heap.size]? =some (.cells r 53 (0,0))/\r.size=8)->bH f p d c self k->(∀n,d n->F n\/b2.heap.size<=n)->bB F w d f->(et c self X d7).2.2=k->(if(et c self X d7).1≠0 then aY (et c self X d7).1 else Iq (et c self X d7).2.1)=y->
   kv ZP 53 (ZL C.heap.size) (.agg (eU y none 0 0 none 0 0 none 0 0).toArray) f λc3=>gP ZP 53 (ZL C.heap.size) c3 λa=>Ok (λa3 w'=>∃d,dv w (if(et c self X d7).1≠0 then aY (et c self X d7).1 else Iq (et c self X d7).2.1) a3 w'/\bH w' p d c self (et c self X d7).2.2/\bB F w d w') (.returned a) c3:=λ{f d k y} y1 y2 y3 hz b3 b4 Q hX hy=>by
  obtain⟨r,hg,e7⟩:=hz;refine az (gh y none 0 0 none 0 0 none 0 0) hg (by rw[e7];rfl) λc3 a8 h2 e8=>au (gh y none 0 0 none 0 0 none 0 0) e8 (Ok.mk ⟨d,by rw[hy];exact dv.plain y1 y2 y3,?_,Q.af.new a8 λn P=>.inr (by have P:n=C.heap.size:=P;omega),Q.new⟩);rw[hX];refine b3.af a8 λn P e=>?_;have e:n=C.heap.size:=e;rcases b4 n P with h1|h1
  ·have:=u n h1;omega
  ·omega
 refine⟨p,0,rfl,_,ae e6.bk rfl,fz Tryz.underlying101 ⟨_,rfl,?_⟩⟩;have d8:DL w (λn=>F n/\cls n=2) h.dp h.lp X.D X.log:=l.at' 2;obtain⟨hS,R,hn⟩:=(show ck w h.sp (λn=>F n/\cls n=3) X.S/\X.S.Cl/\X.S.n=c.ay.toNat from l.at' 3)
 cases S:X.log with
 |none=>
  obtain⟨Fd,-,-,h3⟩:=d8;rw[S]at h3;have h3:h.lp=none:=h3;rw[h3];refine al.tt rfl ?_;have m:et c self X d7=(15,(0,0),X):=by unfold et;rw[S]
  exact E (y:=aY 15) rfl rfl rfl ⟨_,d6,rfl⟩ (b8.ah a1) (λn P=>.inl P) ⟨ai.af a1,λn P=>.inl P⟩ (by rw[m]) (by rw[m];rfl)
 |some f1=>
 obtain⟨f6,a4,c4,-⟩:=DL.OB (S▸d8) (J.sub λn P=>P.1) λn P=>u n P.1;rw[a4];refine al.ff rfl λe9 f2=>⟨λ_=>False,?_⟩
 have b5:ai b2 e9:=f2.af;have a2:=a1.then b5;have c5:=cA.ah l a2;refine⟨p,0,rfl,id,_,_,_,_,_,_,ae c5.bk rfl,ae c5.bk rfl,p,0,rfl,_,ae c5.bk rfl,PC.ok (rE (hS.ah a2) oM) ?_⟩;rintro _ h4 ⟨la,ln,lc,G,rfl,c6,K,hG⟩;have h6:=c6.len dC;have f3:=c6.aC;have T:=a2.then K;have h7:=cA.ah l T;have b9:∀{f:World},ai w f->bg f (λn=>F n/\cls n=1) c.decl h.ta h.tn h.pa h.pn:=λ{f} H=>(cA.ah l H).at' 1;refine⟨_,_,_,rfl,K,PC.ok (HB q.decl (J.nY.ah (J.gr.then T)) (b9 T) (λn P=>by have:=u n P.1;have:=T.size;omega) (c6.row dC (by unfold aK;omega)) (λn P=>f3 n P) oM) ?_⟩;rintro _ I ⟨vp,Fv,rfl,hv,h8,L⟩;have M:=T.then L;have c1:=((c2.then b5).then K).then L;obtain⟨g5,f4⟩:=HK q.decl X.S.l;obtain⟨a,c7⟩:∃a,a=rq c.decl X.S (cz c.decl X.S.l) self c.start d7:=⟨_,rfl⟩
 have h9:=a2.size;have i0:=K.size;have i1:=L.size;have v:∀{f:World},ai I f->YX 80 #[.agg #[.slice h.ta h.tn h.tc,.slice h.pa h.pn h.pc],ZL h.sp,ZL vp,ZH self,ZH c.start,wK d7] f (Ok (vT f a)):=λ{f} H=>by
  rw[c7];exact DU (J.nY.ah ((J.gr.then M).then H)) (b9 (M.then H)) (λn P=>by have:=u n P.1;have:=(M.then H).size;omega) q.decl (hS.ah (M.then H)) oM (hv.ah H) f4
   (by have:=q.start;unfold aJ at this;omega) (by have:=MZ R.ok;unfold aJ at this;omega)
 refine⟨_,rfl,L,λU eo o no w'=>eo=0/\∃g i j G,w'.heap[U]? =some (.cells (aE a.1 g i j).toArray 63 (0,0))/\Row aI 8 w' G g i a.1.aQ/\(∀n,G n->I.heap.size<=n/\n<w'.heap.size)/\I.heap.size<=U/\o=a.2.1/\no=a.2.2/\ai I w',?_,?_⟩
 ·intro x d9
  have N:ai I x:=d9.af;have i2:x.heap.size=I.heap.size:=by rw[d9.heap]
  have e0:=M.then N;have V:=cA.ah l e0;have e1:=N.get (c1.get e5 id) id;have nS:¬x.heap.size<=p:=oM
  have f5:¬x.heap.size<=w.heap.size:=by have:=b5.size;have:=K.size;have:=L.size;omega
  refine⟨λn=>x.heap.size<=n,p,0,rfl,nS,_,_,_,_,_,_,ae V.bk rfl,ae V.bk rfl,p,0,rfl,nS,_,ae V.bk rfl,p,0,rfl,nS,_,ae V.bk rfl,p,0,rfl,nS,_,ae V.bk rfl,f5,au (qm d7) e1 ⟨PC.ok (v N) ?_,PA.mk λi3 c8 i4 f8=>⟨ai.af c8,PC.ok (v (N.then c8)) ?_⟩⟩⟩
  ·rintro _ c9 ⟨g,i,j,G,rfl,W,s,d0⟩
   have i5:=d0.size;refine bT (rY a.1 g i j) ⟨_,_,rfl,ai.af d0,PA.mk λi6 d1 i7 g0=>⟨ai.af d1,az (aX a.1 g i j) g0 rfl λi8 d2 i9 g1=>⟨d2.mono λn _ e=>by have e:n=c9.heap.size:=e;omega,rfl,g,i,j,G,g1,?_,λn P=>⟨by have:=s n P;omega,by have:=s n P;omega⟩,oM,rfl,rfl,?_⟩⟩⟩
   ·exact(W.ah d1).af d2 λn P e=>by have e:n=c9.heap.size:=e;have:=(s n P).2;omega
   ·exact((N.then d0).then d1).new d2 λn P=>.inr (by have P:n=c9.heap.size:=P;omega)
  ·rintro _ j0 ⟨g,i,j,G,rfl,W,s,b6⟩
   have j1:=b6.size;refine bT (rY a.1 g i j) ⟨_,_,rfl,ai.af b6,az (aX a.1 g i j) (b6.get f8 id) rfl λj2 d3 j3 g2=>⟨d3.mono λn _ e=>by have e:n=x.heap.size:=e;omega,rfl,g,i,j,G,g2,?_,λn P=>⟨by have:=s n P;omega,by have:=s n P;omega⟩,oM,rfl,rfl,?_⟩⟩
   ·exact W.af d3 λn P e=>by have e:n=x.heap.size:=e;have:=(s n P).1;omega
   ·exact((N.then c8).then b6).new d3 λn P=>.inr (by have P:n=x.heap.size:=P;omega)
 rintro U _ o no _ O ⟨rfl,g,i,j,G2,b,W,s,j4,rfl,rfl,d4⟩;have Y:=M.then d4;have j5:=cA.ah l Y;have g6:=c1.then d4;have b0:=d4.get (L.get (K.get (b5.get d6 id) id) id) id;have a5:a.1.Ok:=by rw[c7];exact Td hx R.ok c0 q.start oM
 have a6:∀{z:Int×(Int×Int)×aR},(if a.2.2≠0 then(a.2.2,(0,0),X)else if a.2.1 then(if(fW c X [a.1]).1≠0 then((fW c X [a.1]).1,(0,0),(fW c X [a.1]).2)else(0,aZ a.1,(fW c X [a.1]).2))else(0,aZ a.1,X))=z->et c self X d7=z:=λ{z} ht=>by
  rw[<-ht,c7];unfold et;rw[S]
 have j6:=Y.size;have d5:=ax b;refine⟨λz w'=>∃d k,bH w' p d c self k/\bB F w d w'/\(∀n,d n->F n\/b2.heap.size<=n)/\w'.heap[U]? =some (.cells (aE a.1 g i j).toArray 63 (0,0))/\(∃r,w'.heap[C.heap.size]? =some (.cells r 53 (0,0))/\r.size=8)/\et c self X d7=(if z≠0 then(z,(0,0),k)else(0,aZ a.1,k)),?_,?_⟩
 ·have A:et c self X d7=(if a.2.2≠0 then(a.2.2,(0,0),X)else(0,aZ a.1,X))->∃d k,bH O p d c self k/\bB F w d O/\(∀n,d n->F n\/b2.heap.size<=n)/\O.heap[U]? =some (.cells (aE a.1 g i j).toArray 63 (0,0))/\(∃r,O.heap[C.heap.size]? =some (.cells r 53 (0,0))/\r.size=8)/\et c self X d7=(if a.2.2≠0 then(a.2.2,(0,0),k)else(0,aZ a.1,k)):=λm=>
   ⟨F,X,b8.ah Y,⟨ai.af Y,λn P=>.inl P⟩,λn P=>.inl P,b,⟨_,b0,rfl⟩,m⟩
  refine al.cX (λB=>al.mk (λt=>?_) (λt=>A (a6 (by rw[Zq (by simpa using B),Zq (by simpa using t),Zq (by simpa using B)])))) (λB=>A (a6 (by rw[Zx B,Zx B])));refine⟨_,_,_,_,_,_,_,_,_,_,_,_,ae b rfl,ae b rfl,ae b rfl,ae b rfl,ae b rfl,ae b rfl,ae b rfl,ae b rfl,ae b rfl,ae b rfl,PA.mk λe2 b7 j7 g3=>?_⟩;have a9:=Y.then b7;have f0:Row jF 96 e2 (λn=>n=O.heap.size\/G2 n) (ZM O.heap.size) 1 [a.1]:=row_one g3 ⟨g,i,j,rfl,W.ah b7,a5⟩ dC;refine PC.ok (Jr (cA.ah l a9) q (J.ah a9) S f0 (λn P=>?_) (by simpa using hl)) ?_
  ·have g4:I.heap.size<=n/\n<e2.heap.size:=P.elim (λe=>⟨oM,oM⟩) λh5=>by have:=s n h5;omega
   exact⟨g4.2,λt=>by have:=u n t.1;omega⟩
  rintro _ j8 ⟨rfl,h',d,Z,a7,a0,-⟩;refine⟨_,rfl,d,(fW c X [a.1]).2,⟨q,h',Z,a7⟩,⟨(ai.af a9).then a0.af,λn P=>(a0.new n P).imp id λh1=>oM⟩,λn P=>(a0.new n P).imp id λh1=>by have:=c2.size;omega,a0.af.get (b7.get b id) λt=>by have:=u _ t;omega,⟨_,a0.af.get (b7.get b0 id) λt=>by have:=u _ t;omega,rfl⟩,?_⟩;exact a6 (by rw[Zq (by simpa using B),Zx t])
 ·rintro z _ j9 ⟨d,k,b3,Q,b4,b1,hz,m⟩
  refine al.dP (λc4=>?_) (λB=>⟨_,_,ae b1 rfl,ae b1 rfl,?_⟩)
  ·rw[Zx c4]at m
   exact E (y:=aY z) rfl rfl rfl hz b3 b4 Q (by rw[m]) (by rw[m];exact Zx c4)
  ·rw[Zq (by simpa using B)]at m
   exact E (y:=Iq (aZ a.1)) rfl rfl rfl hz b3 b4 Q (by rw[m]) (by rw[m];rfl)
end
def eI(c:World)(d:ZN)(g:List bt)(h:Value)(a:World):Prop:=
 ∃(P:YQ) (e f:Nat) (b:List GI) (D:ZN),h= .slice P e f/\aM EA 127 (λn=>aD P=some n) a P e f b/\b.map (·.m)=g/\(∀n∈b,n.In a D)/\(∀n,D n->c.heap.size<=n/\n<a.heap.size/\aD P≠some n/\¬d n)/\∀n,aD P=some n->c.heap.size<=n/\¬d n
section
variable {w w' w0 w1:World} {p:Nat} {F E T Z:ZN} {cls:Nat->Nat} {h:jD} {c:bG} {self:Int} {X:aR} {ms:List bt} {v:Value}
def bd.out(e:bd w1 ms v w')(c:∀n,Z n->n<w1.heap.size)(o:w.heap.size<=w1.heap.size):eI w Z ms v w':=by
 obtain⟨f,g,h,i,D,j,k,l,m,a,d,p⟩:=e;exact⟨f,g,h,i,D,j,k,l,m,λn P=>⟨by have:=(a n P).1;omega,(a n P).2.1,(a n P).2.2,λb=>by have:=c n b;have:=(a n P).1;omega⟩,λn P=>⟨by have:=d n P;omega,λb=>by have:=c n b;have:=d n P;omega⟩⟩
def eI.nil(w0 w:World)(Z:ZN):eI w0 Z [] (.slice none 0 0) w:=⟨none,0,0,[],λ_=>False,rfl,(aM.nil w).mono (λP n=>n.elim) (λP n=>(by cases n)),rfl,sM,λP n=>n.elim,λP n=>(by cases n)⟩
def bd.one{m:bt}{va b:YQ}{vn vc c d a:Nat}{D:ZN}(f:w.heap[a]? =some (.cells (cW m va vn vc b c d).toArray 127 (0,0)))(h:(⟨m,va,vn,vc,b,c,d⟩:GI).In w D)(e:∀P,D P->w0.heap.size<=P/\P<w.heap.size/\P≠a)(j:w0.heap.size<=a)(i:ai w0 w):
  bd w0 [m] (.slice (ZM a) 1 1) w:=by
 have k:=ax f;refine⟨ZM a,1,1,[⟨m,va,vn,vc,b,c,d⟩],D,rfl,⟨⟨cW m va vn vc b c d,λ_=>False,Own.Aw f rfl (by unfold maxLen;omega),bF.one ⟨rfl,trivial⟩,λP n=>n.elim⟩,λP n=>n,λP n=>?_⟩,rfl,λP n=>?_,λP n=>⟨(e P n).1,(e P n).2.1,λg=>?_⟩,λP n=>?_,i⟩
 ·simp only[aD,Q1]at n;omega
 ·simp at n;subst n;exact h
 ·simp only[aD,Q1]at g;exact(e P n).2.2 g.symm
 ·simp only[aD,Q1]at n;omega
def uH(q:bH w p F c self X)(A:aJ e):
  YX 51 #[ZL p,ZH e,ZH m] w (Ok λv w'=>∃n,eI w n (eV c self X e m).1 v w'/\bH w' p n c self (eV c self X e m).2/\bB F w n w'):=by
 have B:=q;obtain⟨C,h,cls,b⟩:=q;have no:(e<0\/e>=c.ay\/e=self)->Ok (λv w'=>∃n,eI w n (eV c self X e m).1 v w'/\bH w' p n c self (eV c self X e m).2/\bB F w n w') (.returned (.slice none 0 0)) w:=λi=>by
  have:eV c self X e m=([],X):=by unfold eV;rw[Zx i]
  rw[this];exact Ok.mk ⟨F,eI.nil _ _ _,B,bB.refl _ _⟩
 refine kH (al.dec (λj=>no (.inl j)) (λj=>⟨p,0,rfl,_,ae b.bk rfl,al.dec (λk=>no (.inr (.inl k))) (λk=>⟨p,0,rfl,_,ae b.bk rfl,al.cX (λl=>no (.inr (.inr l))) (λl=>⟨p,0,rfl,_,ae b.bk rfl,?_⟩)⟩)⟩));have E:eV c self X e m=([kj X.S self e],{X with dO:={X.dO with asked:=aH X.dO.asked e m}}):=by unfold eV;rw[Zq (by rintro(h|h|h);exact j h;exact k h;exact l h)]
 refine PC.ok (JE (b.at' 6) A) ?_;rintro _ r ⟨rfl,H,s⟩;have I:cA r F cls p h c self {X with dO:={X.dO with asked:=aH X.dO.asked e m}}:=aP.same b bM (k:=6) s H λt G J i=>by
  rcases t with _|_|_|_|_|_|_|t<;>first|exact i|exact Zz rfl J
 refine⟨rfl,λo K=>?_⟩;have u:ai r o:=K.af;have a:=cA.ah I u;refine⟨p,0,rfl,_,ae a.bk rfl,p,0,rfl,_,ae a.bk rfl,PC.ok (yG (a.at' 3).1) ?_⟩;rintro _ L ⟨R,S,T,G,rfl,x,M,f⟩;have y:=x.aC;have N:=f.size;refine⟨_,_,_,_,_,_,_,_,_,rfl,PA.mk λwu g U O=>?_⟩;rw[E];have Q:bd o [kj X.S self e] (.slice (ZM L.heap.size) 1 1) wu:=bd.one (D:=G) O ⟨(x.ah g).row dC (by show X.S.vec.length*8<=aK;rw[X.S.bN];have:=(a.at' 3).1.1.n;have:X.S.n<=64:=this;unfold aK;omega),c_ _ _⟩ (λd P=>⟨M d P,by have:=y d P;omega,by have:=y d P;omega⟩) N (f.then g);have z:ak F w o:=(s.mono λd _ P=>P.1).ah u;exact Ok.mk ⟨F,Q.out a.aC z.size,⟨C,h,cls,cA.ah a (f.then g)⟩,(z.ah f).ah g,λd P=>.inl P⟩
def ME(T:iR)(b:Int):∀n∈T.due b,n∈T.open:=by
 have:∀(c:List Int) (d:List Int×List (Int×Int)),∀n∈(c.foldl (fT T.cP b) d).1,n∈d.1\/n∈c:=by
  intro c
  induction c with
  |nil=>intro d n P;exact .inl P
  |cons g c f=>
   intro d n P;rcases f _ n P with a|a
   ·unfold fT at a
    split at a
    ·rcases Q6.1 a with e|e
     ·exact .inl e
     ·simp at e;subst e;exact .inr (QV ..)
    ·exact .inl a
   ·exact .inr (QJ _ a)
 intro n P;unfold iR.due iR.iA at P;rw[List.take_length]at P;exact(this T.open ([],T.asked) n P).resolve_left sM
def Ru{T:iR}(a:∀n∈T.asked,aJ n.1):∀P∈T.open,aJ P:=λP b=>by
 have:P∈T.asked.map (·.1):=(List.mergeSort_perm _ _).mem_iff.1 b;obtain⟨n,c,rfl⟩:=Xk.1 this;exact a n c
def Gc(T:iR)(n:Int):(T.due n).length<=T.asked.length:=by
 have:∀(a:List Int) (P:List Int×List (Int×Int)),(a.foldl (fT T.cP n) P).1.length<=P.1.length+a.length:=by
  intro a
  induction a with
  |nil=>intro P;simp
  |cons b a d=>
   intro P;have c:=d (fT T.cP n P b);have e:(fT T.cP n P b).1.length<=P.1.length+1:=by
    unfold fT;split
    ·simp
    ·omega
   simp only[List.foldl_cons,Xq];omega
 have c:=this T.open ([],T.asked);unfold iR.due iR.iA;rw[List.take_length];have e:T.open.length=T.asked.length:=by simp[iR.open,vU]
 simp only[ZQ]at c;omega
def Ii(M:bH w p F c self X)(a:X.dO.asked.length<=1000):
  YX 49 #[ZL p,ZH e] w (Ok λv w'=>∃l,eI w l (iu self X e).1 v w'/\bH w' p l c self (iu self X e).2/\bB F w l w'):=by
 obtain⟨N,h,cls,m⟩:=M;have u:dL w h.tp (λn=>F n/\cls n=6) X.dO:=m.at' 6;have O:∀b∈X.dO.due e,aJ b:=λb f=>Ru u.sS b (ME _ _ b f);have b0:=Gc X.dO e;refine om ⟨p,0,rfl,_,ae m.bk rfl,PC.ok (OI u (by unfold aK;omega)) ?_⟩;rintro _ g ⟨Q,o,cc,rfl,x,R,q,hn⟩;have y:cA g F cls p h c self {X with dO:=X.dO.Lh e}:=aP.same m bM (k:=6) q R λP G z S=>by
  rcases P with _|_|_|_|_|_|_|P<;>first|exact S|exact Zz rfl z
 have T:=x.length;rw[js,Nat.mul_one]at T;have U:Ints g Q o (X.dO.due e):=x.ints (by unfold aK;omega) O;have V:=y.aC;have W:=q.size;refine⟨_,_,_,rfl,λA B C E Y w'=>∃P:Nat,Y=P/\P<=o/\A=o-P/\bd g (((X.dO.due e).take P).map λd=>kj X.S self d) (.slice B C E) w',⟨_,0,rfl,Qj _,rfl,bd.nil g⟩,?_⟩;rintro A B C E _ _ Z ⟨P,rfl,z,rfl,i⟩;have r:=i;obtain⟨a3,n1,c1,a4,D,he,g2,g3,g4,g5,g6,j⟩:=r
 cases he
 have H:=cA.ah y j;have b1:=j.size;refine al.dec (λb2=>?_) (λb3=>?_)
 ·obtain⟨n,s,b,rfl,b4,f,b5,a0⟩:=(U.ah j).at (i:=(P:Int)) oM oM
  rw[Qx]at f;refine⟨n,s,rfl,oM,oM,b,a0,λa6 a7=>?_⟩;have t:ai Z a6:=a7.af;have k:=cA.ah H t;refine⟨p,0,rfl,_,ae k.bk rfl,p,0,rfl,_,ae k.bk rfl,PC.ok (yG (k.at' 3).1) ?_⟩;rintro _ b6 ⟨va,vn,vc,G,rfl,I,J,K⟩;have a8:=I.aC;have b7:=t.size;have b8:=K.size;refine⟨_,_,_,_,_,_,_,_,_,rfl,PA.mk λb9 L c2 a9=>?_⟩;refine bd.push (m:=kj X.S self b) (E:=G) (i.ah ((t.then K).then L)) yy ⟨(I.ah L).row dC (by show X.S.vec.length*8<=aK;rw[X.S.bN];have:X.S.n<=64:=(k.at' 3).1.1.n;unfold aK;omega),c_ _ _⟩ (λn a=>⟨by have:=J n a;omega,by have:=a8 n a;omega,λa1=>by have:=g2.aC n a1;have:=J n a;omega⟩) a9 (by rw[Q8,Qy];omega) λa' c' c3 a2 c4=>⟨_,_,_,rfl,_,?_,P+1,aq oM,oM,rfl,?_⟩
  ·omega
  ·rw[Qw,f,Q3];exact a2
 ·rw[Qz oM]at i
  exact Ok.mk ⟨F,i.out V W,⟨N,h,cls,H⟩,(q.mono λn _ a=>a.1).ah j,λn a=>.inl a⟩
def Mu(P:bH w p F c self X):YX 21 #[ZL p] w (Ok (oZ aI 3 w X.S.vec)):=by
 obtain⟨f,h,cls,n⟩:=P;refine py ⟨p,0,rfl,_,ae n.bk rfl,PC.ok (lJ (n.at' 3).1) ?_⟩;rintro _ g ⟨a,b,d,G,rfl,e⟩;exact⟨_,_,_,rfl,Ok.mk ⟨a,b,d,G,rfl,e⟩⟩
def AV(a:bH w p F c self X)(n:X.S.l.length<=20000000):YX 22 #[ZL p] w (Ok (oZ jF 63 w X.S.l)):=by
 obtain⟨f,h,cls,P⟩:=a;refine mq ⟨p,0,rfl,_,ae P.bk rfl,PC.ok (rE (P.at' 3).1 n) ?_⟩;rintro _ g ⟨b,d,e,G,rfl,n⟩;exact⟨_,_,_,rfl,Ok.mk ⟨b,d,e,G,rfl,n⟩⟩
end
def vV{c:aw}:∀{P:List aj} {e:aj} {S':aw} {l':List aj},eR c P=some (e,S',l')->l'.length+1=P.length
 |[],e,S',l',n=>by simp[eR]at n
 |x::P,e,S',l',n=>by
  unfold eR at n;split at n
  ·simp only[Q1,Prod.mk.injEq]at n
   obtain⟨-,-,rfl⟩:=n;rfl
  ·cases a:eR c P with
   |none=>rw[a]at n;cases n
   |some b=>
    rw[a]at n;simp only[Option.map_some,Q1,Prod.mk.injEq]at n;obtain⟨rfl,rfl,rfl⟩:=n;have:=vV (e:=b.1) (S':=b.2.1) (l':=b.2.2) a;simp only[Xq];omega
def vW:∀(k:Nat) (a:aw) (P n:List aj),(ej k a P n).1.length+(ej k a P n).2.length=n.length+P.length
 |0,a,P,n=>rfl
 |k+1,a,P,n=>by
  unfold ej
  cases e:eR a P with
  |none=>rfl
  |some f=>
   obtain⟨b,c,d⟩:=f;have h:=vV e;have g:=vW k c d (n++[b]);show(ej k c d (n++[b])).1.length+(ej k c d (n++[b])).2.length=_;rw[g,QX,List.length_singleton];omega
def vX(P:aw)(n:List aj):(bC P n).1.length+(bC P n).2.length<=n.length:=by
 unfold bC;dsimp only;rw[vW];have:=List.length_filter_le (λa=>(P.get (aZ a)).isNone) n;simp only[ZQ];omega
structure Hm (w:World) (wp most:Nat) (M0 D0 E:ZN) (s:Nat) (S:aw) (b:List aj) (oa:YQ) (on oc:Nat) (Lo:List (Bx aj)) (w1:World) (M Db Fs Do:ZN):Prop where
 buf:gN w1 wp M Db most b
 set:ck w1 s Fs S
 Nr:∀x∈Lo,mW.In w1 Do x
 out:aM mW.jG 63 (λb=>aD oa=some b) w1 oa on oc Lo
 nM:∀b,M b->(M0 b\/w.heap.size<=b)/\¬Fs b
 nD:∀b,Db b->(D0 b\/w.heap.size<=b)/\¬Fs b
 nF:∀b,Fs b->w.heap.size<=b
 nO:∀b,Do b->(E b\/D0 b\/w.heap.size<=b)/\b<w1.heap.size/\¬M b/\¬Fs b
 nA:∀b,aD oa=some b->w.heap.size<=b/\¬M b/\¬Fs b/\¬Do b/\¬Db b
 af:ak M0 w w1
 cl:S.Cl
section
variable {w w' w0 w1 w2:World} {p wp most s on oc:Nat} {F E T Z M0 D0 M Db Fs Do:ZN} {cls:Nat->Nat} {h:jD} {c:bG} {self:Int} {X:aR} {S:aw} {b:List aj} {oa:YQ} {Lo:List (Bx aj)}
def gN.OE(n:gN w p M Db most b):∀b,M b->b<w.heap.size:=by obtain⟨-,a,d,c,e,P⟩:=n;exact P.dM
def gN.JF(n:gN w p M Db most b):∀b,Db b->b<w.heap.size/\¬M b:=by obtain⟨-,a,d,c,e,P⟩:=n;exact P.dD
def Hm.ah(n:Hm w wp most M0 D0 E s S b oa on oc Lo w1 M Db Fs Do)(P:ai w1 w2):Hm w wp most M0 D0 E s S b oa on oc Lo w2 M Db Fs Do:=
 ⟨n.buf.ah P,n.set.ah P,λc d=>(n.Nr c d).af P λ_ _ h=>h,n.out.ah P,n.nM,n.nD,n.nF,λb a=>⟨(n.nO b a).1,by have:=(n.nO b a).2.1;have:=P.size;omega,(n.nO b a).2.2⟩,n.nA,n.af.ah P,n.cl⟩
def Hm.add(P:Hm w wp most M0 D0 E s S b oa on oc Lo w1 M Db Fs Do){h l:Nat}(m:Row aI 8 w1 f d h q.aQ)(o:∀b,f b->b<w1.heap.size/\¬Fs b)(i:q.Ok)(y:S.l.length<=20000000):
  YX 74 #[ZL s,jT q d h l] w1 (Ok λj w'=>j= ZH (S.add q).1/\∃e,Hm w wp most M0 D0 E s (S.add q).2 b oa on oc Lo w' M Db e Do/\ak Fs w1 w'/\∀b,e b->Fs b\/w1.heap.size<=b):=by
 refine(uA P.set m o i oM).mono ?_;rintro _ w2 ⟨j,rfl,rfl,k,p,a⟩;have r:=P.buf.OE;have t:=P.buf.JF;have z:=P.af.size;have c:∀b,b<w1.heap.size->¬Fs b->¬k b:=λb A u g=>(a.new b g).elim u oM;refine Ok.mk ⟨rfl,k,⟨P.buf.af a.af (λb n=>(P.nM b n).2) λb n=>(P.nD b n).2,p,λv x=>(P.Nr v x).af a.af λb n=>(P.nO b n).2.2.2,P.out.af a.af λb n=>(P.nA b n).2.2.1,λb n=>⟨(P.nM b n).1,c b (r b n) (P.nM b n).2⟩,λb n=>⟨(P.nD b n).1,c b (t b n).1 (P.nD b n).2⟩,
  λb n=>(a.new b n).elim (P.nF b) λY=>oM,λb n=>⟨(P.nO b n).1,by have:=(P.nO b n).2.1;have:=a.af.size;omega,(P.nO b n).2.2.1,c b (P.nO b n).2.1 (P.nO b n).2.2.2⟩,λb n=>⟨(P.nA b n).1,(P.nA b n).2.1,c b (P.out.aC b n) (P.nA b n).2.2.1,(P.nA b n).2.2.2⟩,P.af.new a.af λb n=>.inr (P.nF b n),P.cl.add i⟩,a.af,a.new⟩
def Hm.push{t:Program}(P:Hm w wp most M0 D0 E s S b oa on oc Lo w1 M Db Fs Do)(y:jV t g 63 mW.jG.k 96){c:Bx aj}(z:mW.In w1 f c)(d:∀b,f b->(E b\/D0 b\/w.heap.size<=b)/\b<w1.heap.size/\¬M b/\¬Fs b/\aD oa≠some b){A:Nat×Nat}(B:w1.heap[a]? =some (.cells (aE c.x c.a c.n c.c).toArray 63 A))(Q:Lo.length<=1000000){u C:ZR}(p:∀k o w' q,Hm w wp most M0 D0 E s S b k (on+1) o (Lo++[c]) w' M Db Fs q->ak (λb=>aD oa=some b) w1 w'->(∀b,aD k=some b->aD oa=some b\/w1.heap.size<=b)->u (.slice k (on+1) o) w'):
  aG t (Builtin.append_ #[g,g] r #[.slice oa on oc,.slice (ZM a) 1 1]) w1 u C:=by
 refine eH (c:=mW.jG) (x:=c) (D:=λ_=>False) P.out y B ⟨rfl,trivial⟩ (λb n=>n.elim) (by unfold aK;omega) (by unfold maxLen;omega) λk o w2 R v e F=>?_;have I:=v.alone;have x:∀b,aD k=some b->aD oa=some b\/w1.heap.size<=b:=λb n=>(F b (v.self b n)).imp id λh=>h.resolve_left id;have T:=e.size;have z1:=P.af.size;have J:=P.buf.OE;have K:=P.buf.JF;have L:=P.set.aC;have nA:=P.nA;refine p k o w2 (λb=>Do b\/f b) ⟨P.buf.af e (λb n i=>(nA b i).2.1 n) λb n i=>(nA b i).2.2.2.2 n,P.set.af e λb n i=>(nA b i).2.2.1 n,λN l=>?_,I,P.nM,P.nD,P.nF,λb n=>?_,λb n=>?_,P.af.new e λb n=>.inr (nA b n).1,P.cl⟩ e x
 ·rcases Q6.1 l with l|l
  ·exact((P.Nr N l).af e λb n i=>(nA b i).2.2.2.1 n).mono λb n=>.inl n
  ·simp at l;subst l
   exact(z.af e λb n=>(d b n).2.2.2.2).mono λb n=>.inr n
 ·rcases n with n|n
  ·exact⟨(P.nO b n).1,by have:=(P.nO b n).2.1;omega,(P.nO b n).2.2⟩
  ·exact⟨(d b n).1,by have:=(d b n).2.1;omega,(d b n).2.2.1,(d b n).2.2.2.1⟩
 ·rcases x b n with H|H
  ·exact⟨(nA b H).1,(nA b H).2.1,(nA b H).2.2.1,λm=>m.elim (nA b H).2.2.2.1 λO=>(d b O).2.2.2.2 H,(nA b H).2.2.2.2⟩
  ·exact⟨oM,λj=>by have:=J b j;omega,λj=>by have:=L b j;omega,λj=>j.elim (λm=>by have:=(P.nO b m).2.1;omega) λm=>by have:=(d b m).2.1;omega,λj=>by have:=(K b j).1;omega⟩
def Hm.wait(n:Hm w wp most M0 D0 E s S b oa on oc Lo w1 M Db Fs Do){j o:Nat}(p:Row aI 8 w1 f d j q.aQ)(r:∀b,f b->b<w1.heap.size)(t:q.Ok):
  YX 246 #[ZL wp,jT q d j o] w1 (Ok λk w'=>∃u,k= .bool u/\∃g h,Hm w wp most M0 D0 E s S (fl most b q).2 oa on oc Lo w' g h Fs Do/\ak M w1 w'):=by
 refine(Kn n.buf p r t).mono ?_;rintro _ w2 ⟨k,rfl,rfl,g,v,x,e,i,l⟩;have m:=n.set.aC;have A:=n.af.size;have B:=e.size;refine Ok.mk ⟨_,rfl,g,v,⟨x,n.set.af e λb P c=>(n.nM b c).2 P,λy z=>(n.Nr y z).af e λb P=>(n.nO b P).2.2.1,n.out.af e λb P=>(n.nA b P).2.1,λb P=>?_,λb P=>?_,n.nF,λb P=>⟨(n.nO b P).1,by have:=(n.nO b P).2.1;omega,λc=>?_,(n.nO b P).2.2.2⟩,λb P=>⟨(n.nA b P).1,λc=>?_,(n.nA b P).2.2.1,(n.nA b P).2.2.2.1,λc=>?_⟩,?_,n.cl⟩,e⟩
 ·rcases i b P with a|a
  ·exact n.nM b a
  ·exact⟨.inr oM,λc=>by have:=m b c;omega⟩
 ·rcases l b P with a|a
  ·exact n.nD b a
  ·exact⟨.inr oM,λc=>by have:=m b c;omega⟩
 ·rcases i b c with a|a
  ·exact(n.nO b P).2.2.1 a
  ·have:=(n.nO b P).2.1;omega
 ·rcases i b c with a|a
  ·exact(n.nA b P).2.1 a
  ·have:=n.out.aC b P;omega
 ·rcases l b c with a|a
  ·exact(n.nA b P).2.2.2.2 a
  ·have:=n.out.aC b P;omega
 ·exact n.af.new e λb P=>(n.nM b P).1
def Hm.ready(n:Hm w wp most M0 D0 E s S b oa on oc Lo w1 M Db Fs Do)(i:S.l.length<=19000000):
  YX 247 #[ZL wp,ZL s] w1 (Ok λh w'=>∃a e f d,h= .slice a e f/\aM mW.jG 63 (λb=>aD a=some b) w' a e f d/\d.map (·.x)=(bC S b).1/\(∀g∈d,mW.In w' Db g)/\(∀b,aD a=some b->w1.heap.size<=b)/\
   Hm w wp most M0 D0 E s S (bC S b).2 oa on oc Lo w' M Db Fs Do/\ak M w1 w'):=by
 refine(FK n.buf n.set n.cl i).mono ?_;rintro _ w2 ⟨h,rfl,a,e,f,d,rfl,j,k,l,m,o,c⟩;have r:=c.size;exact Ok.mk ⟨a,e,f,d,rfl,j,k,l,m,⟨o,n.set.af c λb P p=>(n.nM b p).2 P,λg q=>(n.Nr g q).af c λb P=>(n.nO b P).2.2.1,n.out.af c λb P=>(n.nA b P).2.1,n.nM,n.nD,n.nF,λb P=>⟨(n.nO b P).1,by have:=(n.nO b P).2.1;omega,(n.nO b P).2.2⟩,n.nA,n.af.new c λb P=>(n.nM b P).1,n.cl⟩,c⟩

import Derived.Test.YtblabbpipmodgaaGreatDoorYrCodeR
set_option maxHeartbeats 4000000
set_option linter.all false
set_option maxRecDepth 100000
open Go.IntKind renaming wrap→ZG
namespace Go.Proofs.YtblabbpipmodgaaGreatDoor
open Go.aw
def iZ(D:ak)(P:ByteArray):Bool:=decide (P=aQ)||((gB P).2&& !decide ((gB P).1∈(dz D).getD []))
def Fk(D:ak):List ByteArray:=D.list.filter (iZ D)
def JO(D:ak)(P:List ByteArray):ak:=P.foldl (λD a=>(D.delete a).2) D
def dq(D:ak):ak:=JO D (Fk D)
def Ai(P:List ByteArray):List (List Value):=P.map λa=>[.string a]
def Pm(D:ak)(P:List (List Value)):ak:=P.foldl (λD a=>match a with
 |[.string b]=>(D.delete b).2
 |_=>D) D
def DG:∀(P:List ByteArray) (D:ak),Pm D (Ai P)=JO D P
 |[],D=>rfl
 |s::P,D=>DG P (D.delete s).2
def Nc(D:ak)(P:List (List Value))(a:ByteArray):Pm D (P++[[.string a]])=((Pm D P).delete a).2:=by
 unfold Pm;rw[List.foldl_append];rfl
def DH(P:List ByteArray)(a:ByteArray):Ai (P++[a])=Ai P++[[.string a]]:=by unfold Ai;simp
variable{e:Int}{s:List Int}{a c i o:Nat}{d:YQ}{b:World}
def Cw{D:ZN}(f:Row aM 8 b D d a s):
  YX 249 #[.slice d a c,ZH e] b (Ok λp g=>(∃m:Int,p= ZH m/\(0<=m↔e∈s))/\b=g):=by
 have w:=f.len;have q:=f.dO;unfold aO at q;refine nC ⟨λn i g=>∃P:Nat,i=P/\P<=a/\n=a-P/\e∉s.take P/\b=g,⟨_,0,rfl,Qj _,rfl,sM,rfl⟩,?_⟩;rintro n i _ _ ⟨P,rfl,x,rfl,j,rfl⟩;refine al.dec (λr=>?_) (λr=>?_)
 ·obtain⟨t,k,y,rfl,o,_,u⟩:=f.lN (i:=P) oM
  refine⟨t,k,rfl,oM,oM,_,u,al.eD (λl=>?_) (λl=>?_)⟩
  ·exact Ok.mk ⟨⟨_,rfl,λ_=>l▸QZ o,λ_=>oM⟩,rfl⟩
  ·refine⟨_,oM,P+1,an oM,oM,rfl,?_,rfl⟩
   rw[Qw,o];intro v;rcases Q6.1 v with h|h
   ·exact j h
   ·simp at h;exact l h
 ·rw[Qz oM]at j
  exact Ok.mk ⟨⟨_,rfl,λh=>oM,λh=>Zz h j⟩,rfl⟩
def vY{D:ZN}(P:Row aM 8 b D d a s):
  YX 178 #[.slice d a c,ZH e] b (Ok λf g=>f= .bool (decide (e∈s))/\b=g):=by
 refine lg (PC.ok (Cw P) ?_);rintro _ _ ⟨⟨i,rfl,h⟩,rfl⟩;exact⟨_,rfl,Ok.mk ⟨by rw[decide_eq_decide.2 h],rfl⟩⟩
section
variable {w0 w w1 w':World} {p:Nat} {D D':ak} {X Y:ZN}
def a_.lt(a:a_ w0 w p D X):∀P,X P->P<w.heap.size:=by obtain⟨c,d,e,f,b⟩:=a;exact b
def Nd(i:a_ w0 w p D X)(s:pU w0):YX 124 #[ZL p] w (Ok λt w'=>∃j k d e f,∃Y G:ZN,t= .func (.func 175) #[] #[ZL j,ZL k]/\
  (∃g l,w'.heap[j]? =some (.cells #[ZL p] g l))/\(∃g l,w'.heap[k]? =some (.cells #[.slice d e f] g l))/\aU aM 3 G w' d e f ((dz D).getD [])/\Y j/\Y k/\(∀a,G a->Y a)/\a_ w0 w' p D (λa=>X a\/Y a)/\ai w w'):=by
 have A:=i.gr.size;refine yt (PA.mk λw1 n B o=>⟨_,ae o rfl,PC.ok ((i.add n (Y:=(·=w.heap.size)) λa P=>⟨oM,oM⟩).il s) ?_⟩);rintro _ b ⟨d,e,f,G,rfl,q,C,u,m⟩;refine⟨_,_,_,_,rfl,PA.mk λE h F v=>PS.mk v sM λH c I x=>Ok.mk ⟨w.heap.size,b.heap.size,d,e,f,λa=>(a=w.heap.size\/G a)\/a=b.heap.size,G,rfl,?_⟩⟩;have J:=m.size;have y:w.heap.size≠b.heap.size:=oM
 have r:∀a,G a->a<b.heap.size:=q.aE;have z:=u.add h (Y:=(·=b.heap.size)) λa P=>⟨oM,oM⟩
 refine⟨⟨_,_,c.get (h.get (m.get o id) id) y⟩,⟨_,_,x⟩,(q.af h).keep c (λa P g=>by have:=r a P;omega),.inl (.inl rfl),.inr rfl,λa P=>.inl (.inr P),?_,?_⟩
 ·refine z.eV c (λa P=>⟨.inr P,oM⟩) λa P=>⟨.inl ?_,?_⟩
  ·rcases P with P|(P|P)|P
   ·exact .inl (.inl (.inl P))
   ·exact .inl (.inl (.inr P))
   ·exact .inl (.inr P)
   ·exact .inr P
  ·have:=c.size
   rcases P with P|(P|P)|P
   ·have:=i.lt a P;omega
   ·omega
   ·have:=r a P;omega
   ·omega
 ·exact aj.new ((n.then m).then h) c λa P=>.inr oM
def CJ(w0 a:World)(p:Nat)(D:ak)(e:ZN)(b:World×(ZN))(c:List (List Value))(d:World):Prop:=
 a_ w0 d p (Pm D c) (λP=>(e P\/(a.heap.size<=P/\P<a.heap.size+2))\/b.2 P)/\aj (dS e) a d/\aj (dS b.2) b.1 d/\∀P,b.2 P->a.heap.size+2<=P
variable {w5:World} {X5:ZN} {s:World×(ZN)} {pre:List (List Value)} {A B:World}
def CJ.af(P:CJ w0 w5 p D X5 s pre A)(a:ai A B):CJ w0 w5 p D X5 s pre B:=⟨P.1.af a,P.2.1.af a,P.2.2.1.af a,P.2.2.2⟩
def CJ.eV(e:ai w0 w5)(f:CJ w0 w5 p D X5 s pre A)(g:pW (w5.heap.size+1) A B):CJ w0 w5 p D X5 s pre B:=by
 obtain⟨c,h,i,d⟩:=f;obtain⟨b,j⟩:=g;have:=e.size;refine⟨c.eV b (λP a=>⟨.inl (.inr ⟨oM,oM⟩),oM⟩) λP a=>⟨.inl a,by rw[j];exact c.lt P a⟩,h.new b λP a=>.inr oM,i.new b λP a=>.inl λk=>?_,d⟩;have:=d P k;omega
def Hx{G:ZN}{R:ZU}(X:Laid w0)(a5:∀P,X5 P->P<w5.heap.size)(r:∃t u,w5.heap[a]? =some (.cells #[ZL p] t u))(Y:X5 a)(v:∃t u,w5.heap[c]? =some (.cells #[.slice d i o] t u))(Z:X5 c)(hl:aU aM 3 G w5 d i o ((dz D).getD []))(hG:∀P,G P->X5 P)(E:∀A B,R A->aj (nE w5) A B->R B)(F:∀s pre w A,CJ w0 w5 p D X5 s pre A->R A->sY [.string ⟨#[]⟩] w->jJ ZP (w5.heap.size+1) w A λP m=>P=true/\CJ w0 w5 p D X5 s (pre++[w]) m/\R m)(x:CJ w0 w5 p D X5 (w5,no) [] w1)(a0:R w1)(a1:w5.heap.size+2<=w1.heap.size):
  YX 175 #[.func (.yield (w5.heap.size+1)) #[] #[],ZL a,ZL c] w1 (Ok λa4 w'=>R w'/\∃s,CJ w0 w5 p D X5 s (Ai (Fk D)) w'):=by
 obtain⟨e2,f2,r⟩:=r;obtain⟨e4,f4,v⟩:=v;have H:a_ w0 w1 p D _:=x.1;refine sZ ⟨_,ae (x.2.1.get r λe=>e Y) rfl,PC.ok H.list ?_⟩;rintro _ y ⟨a8,I,c8,J,rfl,K,a2,h8,L⟩;have a6:D.list.length<=64:=by rw[nG];exact H.ok.many
 have a7:=K.len dC;have a3:CJ w0 w5 p D X5 (y,J) [] y:=⟨h8.mono λP f=>f.elim (λg=>.inl (.inl g)) .inr,x.2.1.af L,aj.refl _,λP f=>Xx a1 (a2 P f)⟩
 refine⟨_,_,_,rfl,λM N w'=>∃b:Nat,N=b/\b<=I/\M=I-b/\CJ w0 w5 p D X5 (y,J) (Ai ((D.list.take b).filter (iZ D))) w'/\R w',⟨_,0,rfl,Qj _,rfl,a3,E _ _ a0 (ai.keep L)⟩,?_⟩;rintro M N _ a9 ⟨b,rfl,hj,rfl,k,O⟩;refine al.dec (λb0=>?_) (λb1=>?_)
 ·obtain⟨P,z,s,rfl,Q,_,l⟩:=((K.keep k.2.2.1 λP f e=>e f).row (bytes:=16) dC ba).lN (i:=b) oM
  refine⟨P,z,rfl,oM,oM,_,l,PC.ok (Aj (X.af k.1.gr)) ?_⟩;rintro _ b2 ⟨rfl,S⟩;have j:=k.af S;have n:=E _ _ O (ai.keep S);have T:sY [.string ⟨#[]⟩] [.string s]:=λφ g=>g s;have U:iZ D s=true->(D.list.take (b+1)).filter (iZ D)=(D.list.take b).filter (iZ D)++[s]:=λg=>by
   rw[Qw,Q,List.filter_append];simp[g]
  have V:iZ D s=false->(D.list.take (b+1)).filter (iZ D)=(D.list.take b).filter (iZ D):=λg=>by
   rw[Qw,Q,List.filter_append];simp[g]
  refine⟨_,_,rfl,al.Wn (λhe=>?_) (λW=>al.mk (λq=>?_) (λq=>?_))⟩
  ·refine⟨_,rfl,(F _ _ _ _ j n T).mono ?_⟩
   rintro _ m ⟨rfl,h,C⟩;refine al.ff rfl ⟨_,?_,b+1,an oM,oM,rfl,?_,C⟩
   ·omega
   ·rw[U (by unfold iZ;rw[show s=aQ from he];simp),DH];exact h
  ·refine⟨_,_,_,ae (j.2.1.get v λe=>e Z) rfl,PC.ok (vY ((hl.keep j.2.1 λP f e=>e (hG P f)).row (bytes:=8) dC (by have:=DI (D:=D);unfold aO;omega))) ?_⟩
   rintro _ _ ⟨rfl,rfl⟩;refine⟨_,rfl,al.mk (λl=>?_) (λl=>?_)⟩
   ·refine⟨_,rfl,(F _ _ _ _ j n T).mono ?_⟩
    rintro _ m ⟨rfl,h,C⟩;refine al.ff rfl ⟨_,?_,b+1,an oM,oM,rfl,?_,C⟩
    ·omega
    ·rw[U (by unfold iZ;rw[q,l];simp),DH];exact h
   ·refine⟨_,?_,b+1,an oM,oM,rfl,?_,n⟩
    ·omega
    ·rw[V (by unfold iZ;rw[q,l,Xv (show¬s=aQ from W)];rfl)];exact j
  ·refine⟨_,?_,b+1,an oM,oM,rfl,?_,n⟩
   ·omega
   ·rw[V (by unfold iZ;rw[q,Xv (show¬s=aQ from W)];rfl)];exact j
 ·rw[Qz oM]at k
  exact Ok.mk ⟨O,_,k⟩
def Nf(r:Laid w0)(c:a_ w0 w p D X):YX 64 #[ZL p] w (Ok λi w'=>i= .tuple #[]/\a_ w0 w' p (dq D) X/\aj (dS X) w w'):=by
 have a6:=c.gr.size;refine yu (PA.mk λw1 t s1 u=>⟨_,ae u rfl,PC.ok (Nd (c.add t (Y:=(·=w.heap.size)) λP a=>⟨oM,oM⟩) r.nH) ?_⟩);rintro _ w5 ⟨b2,b4,a0,a1,a2,Y,G,rfl,C,E,F,H,I,J,j,k⟩;have K:=k.get u id;have l:=j.gr;have z5:=k.size;refine⟨_,rfl,175,_,rfl,kR,World×(ZN),(w5,no),CJ w0 w5 p D λP=>(X P\/P=w.heap.size)\/Y P,λ_ _ _=>False,λ_ _=>True,λm=>m=Ai (Fk D),?_,λs pre A B d e=>d.eV l e,λ_ _ _ _ c _=>c,?_,?_,?_,trivial⟩
 ·intro L n s6
  exact⟨(j.add n (Y:=λP=>w5.heap.size<=P/\P<w5.heap.size+2) λP a=>⟨a.1,oM⟩).mono λP a=>a.elim id False.elim,ai.keep n,ai.keep n,λP a=>a.elim⟩
 ·intro s pre A d a7 a8 _
  refine⟨aj.refl _,λa9 e=>?_⟩;obtain⟨f,h,v,x⟩:=d.eV l e;refine⟨_,ae (h.get K λb=>b (.inl (.inr rfl))) rfl,PC.ok f.delete ?_⟩;rintro _ b0 ⟨rfl,M,o⟩;refine⟨_,rfl,o.mono λP _ b=>⟨λN=>b (.inl (.inr ⟨oM,oM⟩)),λN=>b (.inl (.inr ⟨oM,oM⟩))⟩,?_⟩;show CJ _ _ _ _ _ _ _ _;refine⟨by rw[Nc];exact M,h.new o λP b=>.inl λg=>b (.inl (.inl g)),v.new o λP b=>.inl λg=>b (.inr g),x⟩
 ·intro O Rx Q _ R S L T y
  refine Calls.mono (Hx (R:=O) r j.lt C (.inr H) E (.inr I) F (λP a=>.inr (J P a)) Q (λs pre U A d V e=>(S s pre U A d V e trivial).mono ?_) T y (R _ y)) ?_
  ·rintro P W (c|⟨-,a3,c,-⟩)
   ·exact c
   ·exact c.elim
  ·rintro _ W ⟨i,rfl,Z,s,q⟩
   exact⟨⟨i,rfl⟩,.inl ⟨Z,s,_,q,rfl⟩⟩
 ·rintro s _ A ⟨f,h,v,x⟩ rfl hm
  refine⟨hm,λb1 ⟨z,a5⟩=>Ok.mk ⟨rfl,?_,?_⟩⟩
  ·rw[DG]at f
   exact(f.eV z (λP a=>⟨.inl (.inr ⟨oM,oM⟩),by have:=l.size;omega⟩) λP a=>⟨.inl a,by rw[a5];exact f.lt P a⟩).mono λP a=>.inl (.inl (.inl (.inl a)))
  ·exact aj.new (aj.new (ai.keep (t.then k)) h λP b=>.inl λg=>b (.inl (.inl g))) z λP a=>.inr oM
end
end Go.Proofs.YtblabbpipmodgaaGreatDoor
namespace Go.Proofs
open Go.RowKit Go.Maps Go.Sort Go.Shelf
def Tryz.UO(c:Nat):AnyZI.SortsIn Tryz.prog Tryz.xZ Fence.wide c:=
 ⟨λaH a P d b e f g=>callsIn_wide.2 (AnyM.slices_Sort_int Tryz.vF aH a P d b e f g),
  λh P b=>callsIn_wide.2 (AnyM.slices_Sort_int_none Tryz.vF h P b)⟩
end Go.Proofs
namespace Go.Proofs.YtblabbpipmodgaaGreatDoor
section
open Go.aw
open Go.RowKit Go.Maps Go.Sort Go.Shelf
def vF(P:List Int):List Int:=P.mergeSort (λa b=>decide (a<=b))
variable{f9:List (Int×Value)}{a c:Nat}{C:Nat×Nat}{g:TypeId}{b:World}
def zb(w:bY b a (Value.int .i64) f9)(H:∀h∈f9,aN h.1)(x:f9.length*8<=aO)(y:b.heap[c]? =some (.cells #[.map (some a)] g C)):
  YX 239 #[.func (.func 289) #[] #[ZL c]] b
   (Ok λp z=>GO b 3 (vF (f9.map (·.1))) p z):=by
 unfold aO at x;obtain⟨e,i,I,m,J,K⟩:=w.at';have L:Tryz.prog.underlying 3=some (.int .i64):=Tryz.underlying3;have M:e.size=f9.length:=by have:=Zj List.length m;simpa using this
 have N:∀P:Int,aN P->(Lit.int .i64 P).wf=true:=λP j=>by unfold aN at j;simp[Lit.wf,IntKind.min,IntKind.max,IntKind.signed,IntKind.bits];omega
 have A:∀d∈e.toList,∃P,d.key=Value.int .i64 P/\aN P:=λd f=>by
  have O:(d.key,d.val)∈f9.map (λh=>(Value.int .i64 h.1,h.2)):=by rw[<-m];exact Xk.2 ⟨d,f,rfl⟩
  obtain⟨h,Q,R⟩:=Xk.1 O;exact⟨h.1,(Prod.mk.inj R).1.symm,H h Q⟩
 have B:∀d∈e.toList,∀P,d.key=Value.int .i64 P->aN P->WideElems.rd ZP 3 (λ_=>some ((.nil:DataW Unit),[])) d=some (.int .i64 P,.nil):=λd _ P j k=>by
  simp[WideElems.rd,j,Maps.keyOf_int_mk L (N P k)]
 have S:WideElems.Fit ZP 3 (λ_=>some ((.nil:DataW Unit),[])) e i:=by
  refine⟨by unfold maxLen;omega,⟨J,K,?_⟩,λd f=>?_⟩
  ·have:e.toList.map (·.key)=(f9.map (·.1)).map (Value.int .i64):=by
    have:=Zj (List.map (λq:Value×Value=>q.1)) m;simpa[Function.comp_def]using this
   rw[this];exact List.pairwise_map.2 (List.Pairwise.imp (λT=>by simpa using T) w.tidy)
  ·obtain⟨P,j,k⟩:=A d f
   exact⟨_,B d f P j k⟩
 have U:b.ownsMap ZP 3 (λ_=>some ((.nil:DataW Unit),[])) a e.size (.map ((e.toList.map (WideElems.rg ZP 3 (λ_=>some ((.nil:DataW Unit),[])))).foldr DataW.insert [])):=
  ⟨e,i,I,S,Q4 _,rfl⟩
 have E:Maps.size (.map ((e.toList.map (WideElems.rg ZP 3 (λ_=>some ((.nil:DataW Unit),[])))).foldr DataW.insert []))=f9.length:=by
  show(List.foldr DataW.insert [] _).length=_;rw[(WideShapes.sorted_perm _).length_eq];simp[M]
 have V:(intKeys (.map ((e.toList.map (WideElems.rg ZP 3 (λ_=>some ((.nil:DataW Unit),[])))).foldr DataW.insert []))).Perm (f9.map (·.1)):=by
  refine(List.Perm.map (λh:Lit×DataW Unit=>Go.intOf h.1) (WideShapes.sorted_perm _)).trans ?_;have:(e.toList.map (WideElems.rg ZP 3 (λ_=>some ((.nil:DataW Unit),[])))).map (λh=>Go.intOf h.1)=f9.map (·.1):=by
   have W:e.toList.map (λd=>match d.key with| .int _ P=>P|_=>0)=f9.map (·.1):=by
    have:=Zj (List.map (λq:Value×Value=>match q.1 with| .int _ P=>P|_=>0)) m;simpa[Function.comp_def]using this
   rw[<-W,List.map_map];refine List.map_congr_left λd f=>?_;obtain⟨P,j,k⟩:=A d f;simp[WideElems.rg,B d f P j k,j,Go.intOf]
  rw[this]
 have X:SeqGives Fence.wide 1 ZP 289 #[ZL c] encZ (λl=>l.Perm (intKeys _)) (Maps.size _) b:=
  AnyZI.keys_gives (ρ:=Tryz.EF) {Tryz.VN with} Fence.wide _ trivial rfl oM c a e.size _ b (aA y) (ae y rfl) U
 have Y:=AnyZI.sorted_in Tryz.Te Fence.wide 4 trivial trivial trivial trivial rfl oM (Tryz.UO _) (enters_of Tryz.func288 kR rfl) 289 #[ZL c] trivial
  (enters_of Tryz.func289 kR rfl) _ _ (by rw[E];unfold maxLen;omega) (by rw[E];exact x) b X
 refine((callsIn_wide (n:=4)).1 Y).mono ?_;rintro d z ⟨p,l,rfl,Z,n,a5,r⟩;have F:l.mergeSort (λP a0=>decide (P<=a0))=vF (f9.map (·.1)):=mergeSort_of_perm_i (Z.trans V);have a6:l.length=(vF (f9.map (·.1))).length:=by rw[<-F];simp
 rw[F]at n;have hv:∃s t,p= .slice s l.length t:=by
  rcases n.2 with⟨rfl,h0⟩|⟨g',u,v,rfl,_⟩
  ·exact⟨none,0,by rw[h0]⟩
  ·exact⟨_,_,rfl⟩
 obtain⟨s,t,rfl⟩:=hv;refine Ok.mk ⟨s,_,t,rfl,⟨ownsRow_base_a n (Qj _)⟩,aj.Hj r,λa1 o=>?_⟩;rcases n.2 with⟨f,_⟩|⟨g',u,v,f,a7,_⟩
 ·simp only[XX]at f
  rw[f.1]at o;cases o
 ·simp only[XX]at f
  rw[f.1]at o;simp only[aH,Q1]at o;omega
end
section
open Go.aw
structure jG where
 df:Int
 asked:List (Int×Int)
 heard:List (Int×List Int)
 deriving DecidableEq
def Xg(P:Value)(a:Int):Prop:=P= ZH a
def Ow(e:World)(f:ZN)(g:Value)(b:List Int):Prop:=
 ∃P a c,g= .slice P a c/\Own e 3 1 P a c (ints b)/\a*8<=aO/\(∀h∈b,aN h)/\∀d,aH P=some d->f d
def Ow.keep{S c F':ZN}{b f:World}{g:Value}{h:List Int}(d:Ow b c g h)(m:aj S b f)(n:∀P,c P->P<b.heap.size->(∃i,b.heap[P]? =some i/\∀j k,i≠.map j k)->¬S P)(o:∀P,c P->F' P):Ow f F' g h:=by
 obtain⟨p,q,r,rfl,e,a,s,l⟩:=d;refine⟨p,q,r,rfl,e.keep m (dx.2 λP a=>?_),a,s,λP a=>o P (l P a)⟩;refine n P (l P a) (e.lt a) ?_;rcases e.cases with⟨rfl,_⟩|⟨v,t,rfl,u,_⟩
 ·cases a
 ·simp only[aH,Q1]at a
  subst a;exact⟨_,u,λj k d=>by cases d⟩
structure ei (w:World) (p:Nat) (F:ZN) (T:jG):Prop where
 body:∃ra rh la lh,w.heap[p]? =some (.cells #[ZH T.df,.map (some ra),.map (some rh)] 150 (0,0))/\bY w ra (Value.int .i64) la/\bY w rh (Value.int .i64) lh/\
  fu Xg la T.asked/\fu (Ow w F) lh T.heard/\F ra/\F rh/\ra≠rh
 self:F p
 aE:∀b,F b->b<w.heap.size
 Jn:Tidy T.asked
 sr:∀q∈T.asked,aN q.1
variable{X p:Array Value}{z:ZT}{y:FuncId}{e q:Int}{h2:List (Int×List Int)}{f9:List (Int×Value)}{b2 s:List Int}{F a c i o:Nat}{f:ZN}{d r:YQ}{b k:World}{b4:jG}
def ei.keep{S f:ZN}(P:ei b a f b4)(d:aj S b k)(e:∀c,f c->¬S c):ei k a f b4:=by
 obtain⟨j,l,m,n,o,p,q,r,s,h,i,t⟩:=P.body;exact⟨⟨j,l,m,n,d.get o (e _ P.self),p.keep d (e _ h),q.keep d (e _ i),r,s.mono λv w u=>u.keep d (λc g _ _=>e c g) (λ_ P=>P),h,i,t⟩,
  P.self,λc g=>Qk (P.aE c g) d.size,P.Jn,P.sr⟩
def ei.af(P:ei b a f b4)(c:ai b k):ei k a f b4:=P.keep c λ_ _ P=>P
def kI:iJ ZP 3 (Value.int .i64):=Va Tryz.underlying3
def mA:mE ZP 147 3 3 (ZH 0):=⟨kR,kR⟩
def mH:mE ZP 148 3 27 (.slice none 0 0):=⟨kR,kR⟩
def IU:YX 37 #[ZH e] b
  (Ok λi d=>∃f g,i= ZL f/\ei d f g ⟨e,[],[]⟩/\ai b d/\∀P,g P->b.heap.size<=P):=by
 refine CB (PA.mk λj k q l=>PA.mk λm h r n=>PA.mk λo a s p=>Ok.mk ⟨m.heap.size,λP=>b.heap.size<=P/\P<o.heap.size,rfl,
  ⟨⟨b.heap.size,j.heap.size,[],[],p,bY.new (a.get (h.get l id) id),bY.new (a.get n id),trivial,trivial,oM,oM,oM⟩,oM,λP c=>c.2,by simp[Tidy],sM⟩,
  (k.af h).af a,λP c=>c.1⟩)
def I_(P:ei b a f b4)(t:aN e):
  YX 111 #[ZL a,ZH e,ZH q] b
   (Ok λo j=>o= .tuple #[]/\ei j a f {b4 with asked:=aI b4.asked e q}/\aj f b j):=by
 obtain⟨c,u,K,v,k,p,w,x,y,r,z,s⟩:=P.body;have A:∃d g,b.heap[c]? =some (.map d g):=by obtain⟨d,g,P,_⟩:=p.at';exact⟨d,g,P⟩
 obtain⟨d,g,l⟩:=A;have B:a≠c:=by rintro rfl;rw[k]at l;cases l
 refine pf ⟨a,0,rfl,some c,ae k rfl,iX mA kI p λj C h E=>Ok.mk ⟨rfl,⟨⟨c,u,_,v,h.get k B,C,w.keep h (Ne.symm s),fu.aI (R:=Xg) rfl x,?_,r,z,s⟩,P.self,?_,P.Jn.aI _ _,?_⟩,h.mono ?_⟩⟩
 ·refine y.mono λo L F=>F.keep h (λm _ _ i=>?_) (λ_ P=>P)
  rintro rfl;obtain⟨M,i,H⟩:=i;rw[l]at i;cases i;exact H _ _ rfl
 ·intro m I;rw[E];exact P.aE m I
 ·intro J n
  rcases fr n with rfl|n
  ·exact t
  ·exact P.sr J n
 ·rintro m _ rfl;exact r
def jG.all(a:jG)(P:Int)(b:List Int):List Int:=jX ((aq a.heard P).getD []) b
def GM(a P:List Int):Bool:=qP a P==0||qP a P==2
def jG.ends(b:jG)(P:Int)(c a:List Int):Bool:=(aq b.asked P).isSome&&GM (b.all P c) a
def jG.za(a:jG)(P:Int)(c b:List Int):jG:=
 {a with heard:=aI a.heard P (a.all P c),asked:=if a.ends P c b then bL a.asked P else a.asked}
def BU(b:∀c∈s,aN c)(P:Int):aN (fC s P):=by
 unfold fC;split
 ·unfold aN;omega
 ·by_cases a:P.toNat<s.length
  ·have:=b s[P.toNat] (XY a)
   simp only[List.getD,Qq a,Option.getD_some];unfold aN at*;omega
  ·have:s[P.toNat]? =none:=by simp;omega
   simp only[List.getD,this,Option.getD_none];unfold aN;omega
def Ey(b:∀P∈s,aN P)(c:∀P∈b2,aN P):∀P∈jX s b2,aN P:=by
 intro P d;obtain⟨a,_,rfl⟩:=Xk.1 d;have e:=BU b a;have f:=BU c a;unfold aN at*;omega
def GN(P a:List Int):(jX P a).length=max P.length a.length:=sk _ _ _
def ei.SZ(j:fu (Ow b f) f9 h2)(P:Int):
  ∃a c d,(aq f9 P).getD (.slice none 0 0)= .slice a c d/\Ints b a c ((aq h2 P).getD [])/\c*8<=aO/\∀h,aH a=some h->f h:=by
 rcases j.aq P with⟨e,g⟩|⟨n,o,e,g,a,c,d,rfl,k,i,l,m⟩
 ·rw[e,g];exact⟨none,0,0,rfl,Ints.nil b,by simp[aO],by simp[aH]⟩
 ·rw[e,g];exact⟨a,c,d,rfl,k.ints i l,i,m⟩
def IP(P:ei b a f b4)(L:Ints b d c s)(hy:Ints b r i b2)(W:b2≠[]->oF f r):
  YX 47 #[ZL a,ZH e,.slice d c o,.slice r i F] b
   (Ok λt q=>∃F',t= .bool (b4.ends e s b2)/\ei q a F' (b4.za e s b2)/\cQ f b F' q):=by
 obtain⟨p,v,E,lh,H,y,X,M,h5,Y,N,O⟩:=P.body;obtain⟨l,m,Q⟩:∃l m,b.heap[v]? =some (.map l m):=by obtain⟨l,m,P,_⟩:=X.at';exact⟨l,m,P⟩
 obtain⟨c9,d0,a6⟩:∃l m,b.heap[p]? =some (.map l m):=by obtain⟨l,m,P,_⟩:=y.at';exact⟨l,m,P⟩
 have b7:a≠v:=by rintro rfl;rw[H]at Q;cases Q
 have b8:a≠p:=by rintro rfl;rw[H]at a6;cases a6
 obtain⟨ha,hn,hc,hg,R,hB,hF⟩:=ei.SZ h5 e;refine pg ⟨a,0,rfl,some v,ae H rfl,zq mH kI X ⟨ha,hn,hc,hg,PC.ok (Ah R L) ?_⟩⟩;rintro _ w1 ⟨w,z,S,rfl,Z,u,a7⟩;have b9:z=(b4.all e s).length:=by have:=Z.length;rw[jr,Nat.mul_one]at this;exact this.symm
 have a8:z*8<=aO:=by
  rw[b9];unfold jG.all;rw[GN];have:=R.len;have:=R.dO;have:=L.len;have:=L.dO;unfold aO at*;omega
 have a9:∀c0∈b4.all e s,aN c0:=Ey R.zf L.zf;refine⟨w,z,S,rfl,a,0,rfl,some v,ae (u.get H id) rfl,iX mH kI (X.keep u id) λj b0 A c1=>?_⟩;have I:aH w≠some v:=λk=>by have:=a7 _ k;have:=aA Q;omega
 have b1:Own j 3 1 w z S (ints (b4.all e s)):=Z.keep A (dx.2 λr W=>by rintro rfl;exact I W);have c2:Ints j r i b2:=(hy.af u).Hk A λc3 a0 hq=>by rintro rfl;exact W c3 a0 hq N
 refine PC.ok (MJ (b1.ints a8 a9) c2) ?_;rintro _ _ ⟨rfl,rfl⟩;have T:j.heap[a]? =some (.cells #[ZH b4.df,.map (some p),.map (some v)] 150 (0,0)):=A.get (u.get H id) b7;have U:bY j p (Value.int .i64) E:=(y.keep u id).keep A O;refine⟨_,rfl,?_⟩
 let F':ZN:=λg=>f g\/(b.heap.size<=g/\g<w1.heap.size)
 have a1:cQ f b F' j:=⟨(u.keep (S:=f)).trans A (λ_ _ P=>P) (by rintro g _ rfl;exact N),λg n=>n.imp id (·.1)⟩
 have b3:fu (Ow j F') (aI lh e (.slice w z S)) (aI b4.heard e (b4.all e s)):=by
  refine fu.aI ⟨w,z,S,rfl,b1,a8,a9,λg n=>.inr ⟨a7 g n,Z.lt n⟩⟩ (h5.mono λt ys J=>?_);refine(J.keep u (F':=f) (λ_ _ _ _ P=>P) (λ_ P=>P)).keep A (λg _ _ h=>?_) (λ_ P=>.inl P);rintro rfl;obtain⟨c4,h,I⟩:=h;rw[u.get Q id]at h;cases h;exact I _ _ rfl
 have b5:∀g,F' g->g<j.heap.size:=λg n=>by
  rw[c1];rcases n with n|n
  ·exact Qk (P.aE g n) u.size
  ·exact n.2
 have c5:ei j a F' {b4 with heard:=aI b4.heard e (b4.all e s)}:=
  ⟨⟨p,v,E,_,T,U,b0,M,b3,.inl Y,.inl N,O⟩,.inl P.self,b5,P.Jn,P.sr⟩
 have a2:(aq E e).isSome=(aq b4.asked e).isSome:=by
  rcases M.aq e with⟨B,V⟩|⟨t,b6,B,V,_⟩<;>rw[B,V]<;>rfl
 have c6:∃g:Int,(aq E e).getD (ZH 0)= ZH g:=by
  rcases M.aq e with⟨B,V⟩|⟨t,b6,B,V,J⟩
  ·rw[B];exact⟨0,rfl⟩
  ·rw[B];exact⟨b6,J⟩
 obtain⟨k0,c7⟩:=c6;have no:b4.ends e s b2=false->Ok (λt q=>∃F',t= .bool (b4.ends e s b2)/\ei q a F' (b4.za e s b2)/\cQ f b F' q) (.returned (.bool false)) j:=λk=>
  Ok.mk ⟨F',by rw[k],by unfold jG.za;rw[k];exact c5,a1⟩
 have a3:∀x,b4.ends e s b2=true->bY x p (Value.int .i64) (bL E e)->aj (·=p) j x->x.heap.size=j.heap.size->
   Ok (λt q=>∃F',t= .bool (b4.ends e s b2)/\ei q a F' (b4.za e s b2)/\cQ f b F' q) (.returned (.bool true)) x:=λx k hm C a5=>by
  obtain⟨d1,d2,c8⟩:∃l m,j.heap[p]? =some (.map l m):=by obtain⟨l,m,P,_⟩:=U.at';exact⟨l,m,P⟩
  refine Ok.mk ⟨F',by rw[k],?_,a1.keep.trans C (λ_ _ P=>P) (by rintro g _ rfl;exact Y),a1.new⟩;unfold jG.za;rw[k];refine⟨⟨p,v,_,_,C.get T b8,hm,b0.keep C (Ne.symm O),M.bL,?_,.inl Y,.inl N,O⟩,.inl P.self,λg n=>by rw[a5];exact b5 g n,P.Jn.bL e,λa0 hq=>P.sr a0 (gh hq)⟩;refine b3.mono λt ys J=>J.keep C (λg _ _ h=>?_) (λ_ P=>P);rintro rfl;obtain⟨c4,h,I⟩:=h;rw[c8]at h;cases h;exact I _ _ rfl
 refine⟨λq=>j=q/\b4.ends e s b2=true,⟨a,0,rfl,some p,ae T rfl,mG mA kI U ?_⟩,?_⟩
 rotate_left
 ·rintro _ _ ⟨rfl,k⟩
  exact⟨a,0,rfl,some p,ae T rfl,Ks mA kI U λx hm C a5=>a3 x k hm C a5⟩
 rw[c7];refine⟨k0,_,rfl,al.mk (λh=>?_) (λh=>al.mk (λh0=>al.mk (λy=>?_) (λy=>?_)) (λh0=>?_))⟩
 ·refine no ?_
  have:(aq b4.asked e).isSome=false:=by rw[<-a2];simpa using h
  simp[jG.ends,this]
 ·refine no ?_
  have w:(qP (b4.all e s) b2==0)=false:=by simpa[bne]using h0
  have K:(qP (b4.all e s) b2==2)=false:=by simpa[bne]using y
  simp[jG.ends,GM,w,K]
 ·have k:b4.ends e s b2=true:=by
   have a4:(aq b4.asked e).isSome=true:=by rw[<-a2];simpa using h
   have K:(qP (b4.all e s) b2==2)=true:=by simpa[bne]using y
   simp[jG.ends,GM,a4,K]
  exact⟨rfl,k⟩
 ·have k:b4.ends e s b2=true:=by
   have a4:(aq b4.asked e).isSome=true:=by rw[<-a2];simpa using h
   have K:(qP (b4.all e s) b2==0)=true:=by simpa[bne]using h0
   simp[jG.ends,GM,a4,K]
  exact⟨rfl,k⟩
def jG.open(P:jG):List Int:=vF (P.asked.map (·.1))
def LD(j:ei b a f b4)(d:b4.asked.length*8<=aO):
  YX 168 #[ZL a] b (Ok (GO b 3 b4.open)):=by
 obtain⟨k,C,p,E,q,r,F,e,H,I,J,K⟩:=j.body;refine qe ⟨a,0,rfl,some k,ae q rfl,PC.ok (φ:=λs g=>s= .func (.func 289) #[] #[ZL b.heap.size]/\ai b g/\g.heap.size=b.heap.size+1/\
  g.heap[b.heap.size]? =some (.cells #[.map (some k)] 147 (0,0))) (iK (PA.mk λt P l h=>Ok.mk ⟨rfl,P,l,h⟩)) ?_⟩
 rintro _ t ⟨rfl,P,l,h⟩;have u:∀c∈p,aN c.1:=by
  intro c v;have:c.1∈b4.asked.map (·.1):=by rw[<-e.keys];exact Xk.2 ⟨c,v,rfl⟩
  obtain⟨w,i,x⟩:=Xk.1 this;rw[<-x];exact j.sr w i
 refine⟨_,rfl,PC.ok (zb (r.af P) u (by rw[e.length];exact d) h) ?_⟩;rintro _ L ⟨m,n,o,rfl,y,z,A⟩;refine⟨m,n,o,rfl,Ok.mk ⟨m,n,o,rfl,?_,P.af z,λB d=>by have:=A B d;omega⟩⟩;unfold jG.open;rw[<-e.keys];exact y
def IS(d:ei b a f b4):
  YX 63 #[ZL a] b (Ok λt l=>t= .tuple #[]/\ei l a f ⟨b4.df,[],[]⟩/\aj f b l):=by
 obtain⟨g,h,C,E,e,m,n,F,H,o,p,j⟩:=d.body;obtain⟨P,c,q⟩:∃P c,b.heap[h]? =some (.map P c):=by obtain⟨P,c,d,_⟩:=n.at';exact⟨P,c,d⟩
 obtain⟨I,J,r⟩:∃P c,b.heap[g]? =some (.map P c):=by obtain⟨P,c,d,_⟩:=m.at';exact⟨P,c,d⟩
 have u:a≠h:=by rintro rfl;rw[e]at q;cases q
 have s:a≠g:=by rintro rfl;rw[e]at r;cases r
 refine ph ⟨a,0,rfl,some g,ae e rfl,IE mA m λK v i w=>⟨a,0,rfl,some h,ae (i.get e s) rfl,IE mH (n.keep i (Ne.symm j)) λL x k y=>Ok.mk ⟨rfl,
  ⟨⟨g,h,[],[],k.get (i.get e s) u,v.keep k j,x,trivial,trivial,o,p,j⟩,d.self,λz A=>by rw[y,w];exact d.aE z A,by simp[Tidy],sM⟩,?_⟩⟩⟩
 exact i.trans k (by rintro B _ rfl;exact o) (by rintro B _ rfl;exact p)
def fS(c a:Int)(b:List Int×List (Int×Int))(P:Int):List Int×List (Int×Int):=
 if ZG .i64 (a-(aq b.2 P).getD 0)>=c then(b.1++[P],aI b.2 P a)else b
def jG.iU(P:jG)(a:Int)(b:Nat):List Int×List (Int×Int):=(P.open.take b).foldl (fS P.df a) ([],P.asked)
def jG.due(a:jG)(P:Int):List Int:=(a.iU P a.open.length).1
def jG.QS(P:jG)(a:Int):jG:={P with asked:=(P.iU a P.open.length).2}
def jG.LF(b:jG)(P:Int)(c:b.open[a]? =some e):b.iU P (a+1)=fS b.df P (b.iU P a) e:=by
 unfold jG.iU;rw[Qw,c];simp
def On(h:ei b a f b4)(c:b4.asked.length*8<=aO):
  YX 113 #[ZL a,ZH e] b
   (Ok λJ L=>∃M a4 a5,J= .slice M a4 a5/\Own L 3 1 M a4 a5 (ints (b4.due e))/\ei L a f (b4.QS e)/\aj f b L/\∀P,aH M=some P->b.heap.size<=P):=by
 refine rG (PC.ok (LD h c) ?_);rintro _ N ⟨A,l,lc,rfl,m,s,hn⟩;have b2:∀g∈b4.open,aN g:=by
  intro g B;have:g∈b4.asked.map (·.1):=(List.mergeSort_perm _ _).mem_iff.1 B;obtain⟨t,u,rfl⟩:=Xk.1 this;exact h.sr t u
 have O:l=b4.open.length:=by have:=m.length;rw[jr,Nat.mul_one]at this;exact this.symm
 have b3:b4.open.length=b4.asked.length:=by simp[jG.open,vF]
 have b5:l*8<=aO:=by rw[O,b3];exact c
 have hL:Ints N A l b4.open:=m.ints b5 b2;have b6:oF f A:=dx.2 λP c Q=>by have:=hn P c;have:=h.aE P Q;omega
 unfold aO at c;have d2:oF f none:=oF.none;refine⟨A,l,lc,rfl,λa6 v w R i n=>∃d:Nat,i=d/\d<=l/\a6=l-d/\Own n 3 1 v w R (ints (b4.iU e d).1)/\w<=d/\ei n a f {b4 with asked:=(b4.iU e d).2}/\aj f b n/\Ints n A l b4.open/\N.heap.size<=n.heap.size/\
   (∀P,aH v=some P->N.heap.size<=P),⟨_,0,rfl,Qj _,rfl,Own.nil _ _ _,Qj _,h.af s,s.keep,hL,Q4 _,by simp[aH]⟩,?_⟩
 rintro a6 v w R i _ n ⟨d,rfl,d3,rfl,S,d4,C,T,U,b7,p⟩;refine al.mk (λx=>?_) (λx=>?_)
 ·have x:=XV x
  obtain⟨P,V,g,rfl,d5,B,b8,hc⟩:=U.at (i:=(d:Int)) oM oM;rw[Qx]at B;have a7:=b4.LF e B;obtain⟨ra,rh,WB,lh,t1,t2,t3,t4,t5,t6,t7,t8⟩:=C.body;refine⟨P,V,rfl,oM,oM,g,hc,a,0,rfl,some ra,ae t1 rfl,?_⟩;have b9:(aq WB g).getD (ZH 0)= ZH ((aq (b4.iU e d).2 g).getD 0):=by
   rcases t4.aq g with⟨W,X⟩|⟨J,d6,W,X,Y⟩
   ·rw[W,X];rfl
   ·rw[W,X];exact Y
  refine⟨(aq (b4.iU e d).2 g).getD 0,λc0=>?_,a,0,rfl,b4.df,ae t1 rfl,λw3 hd=>?_⟩
  ·have:=eH mA kI (t2.keep (aj.drewN (S:=λ_=>False) n c0) id) g false
   simpa[b9]using this
  have j:ai n w3:=hd.keep;refine al.mk (λo=>?_) (λo=>?_)
  ·have o:=XV o
   refine PA.mk λw4 q s4 g4=>?_;refine LU TM ((S.af j).af q) g4 (by unfold aO at*;omega) λa' c' w5 a8 E K=>?_;refine⟨a',w+1,c',rfl,a,0,rfl,?_⟩;have c1:∀P,f P->¬(some P=aH v):=λP Q Z=>by have:=p P Z.symm;have:=h.aE P Q;have:=s.size;omega
   have y:ei w5 a f {b4 with asked:=(b4.iU e d).2}:=((C.af j).af q).keep E c1;obtain⟨k,a0,a9,a1,a2,b0,c2,c3,c4,a3,c5,b1⟩:=y.body;refine⟨some k,ae a2 rfl,iX mA kI b0 λw6 c6 r c7=>?_⟩;obtain⟨F,H,I⟩:∃F H,w5.heap[k]? =some (.map F H):=by obtain⟨F,H,h,_⟩:=b0.at';exact⟨F,H,h⟩
   have c8:a≠k:=by rintro rfl;rw[a2]at I;cases I
   have c9:ei w6 a f {b4 with asked:=aI (b4.iU e d).2 g e}:=by
    refine⟨⟨k,a0,_,a1,r.get a2 c8,c6,c2.keep r (Ne.symm b1),fu.aI (R:=Xg) rfl c3,?_,a3,c5,b1⟩,y.self,λP c=>by rw[c7];exact y.aE P c,y.Jn.aI _ _,?_⟩
    ·refine c4.mono λJ ys Y=>Y.keep r (λt _ _ m=>?_) (λ_ h=>h)
     rintro rfl;obtain⟨d7,m,d0⟩:=m;rw[I]at m;cases m;exact d0 _ _ rfl
    ·intro t u
     rcases fr u with rfl|u
     ·exact b8
     ·exact y.sr t u
   have z:b4.iU e (d+1)=((b4.iU e d).1++[g],aI (b4.iU e d).2 g e):=by rw[a7];unfold fS;rw[Zx o]
   have d1:∀P,aH a'=some P->P≠k:=λP c=>by
    rintro rfl;exact a8.TQ I c
   refine⟨_,?_,d+1,?_,oM,rfl,?_,oM,by rw[z];exact c9,?_,?_,?_,?_⟩
   ·omega
   ·rw[wrap_i64 bb];simp
   ·rw[z];exact a8.keep r (dx.2 d1)
   ·refine(((T.af j).af q).new E ?_).trans r (λ_ _ h=>h) (by rintro t _ rfl;exact a3)
    intro P c;right;have:=p P c.symm;have:=s.size;omega
   ·refine(((U.af j).af q).keep E (dx.2 λP c Z=>?_)).keep r (dx.2 λP c=>?_)
    ·have:=p P Z.symm;have:=m.lt c;omega
    ·rintro rfl;exact dx.1 b6 P c a3
   ·have:=j.size;have:=q.size;have:=E.size;omega
   ·intro P c
    rcases K with K|K
    ·exact p P (K▸c)
    ·rw[K]at c;cases c;have:=j.size;have:=q.size;omega
  ·have o:=Xy o
   have z:b4.iU e (d+1)=b4.iU e d:=by rw[a7];unfold fS;rw[Zq o]
   refine⟨_,?_,d+1,?_,oM,rfl,by rw[z];exact S.af j,oM,by rw[z];exact C.af j,T.af j,U.af j,Xx b7 j.size,p⟩
   ·omega
   ·rw[wrap_i64 bb];simp
 ·have x:=Xy x
  obtain rfl:d=l:=oM
  refine Ok.mk ⟨v,w,R,rfl,?_,?_,T,λP c=>Xx s.size (p P c)⟩
  ·unfold jG.due;rw[<-O];exact S
  ·unfold jG.QS;rw[<-O];exact C
structure cN where
 bW:Int
 tO:Int
 bl:Int
 chunk:Int
 buffer:Int
 df:Int
 every:Int
 start:Int
 decl:aS
structure bM where
 S:au
 D:ak
 log:Option dw
 waits:List ah
 fV:jG
def jR(P:cN)(a:Int):Bool:=
 within P.bW 1 64&&within a 0 (P.bW-1)&&within P.tO 64 262144&&decide (P.bl>=1)&&decide (P.every>=1)&&within P.chunk 1 32&&within P.buffer 1 256&&within P.df 1 1048576&&decide (P.start>=0)
section
variable (c:cN) (self:Int)
def fq(a:bM):Int×bM:=
 let P:=aT a.D c.bl
 if P.no≠0 then(P.no,{a with D:=P.D,log:=none,S:=⟨c.bW.toNat,[]⟩})
 else(0,{a with D:=P.D,log:=some P.V,S:=(⟨c.bW.toNat,[]⟩:au).eE P.out})
def Bq:Int×bM:=fq c ⟨⟨c.bW.toNat,[]⟩,gq c.tO.toNat,none,[],⟨c.df,[],[]⟩⟩
def eQ(P:au)(a:List ah):au:=(⟨c.bW.toNat,[]⟩:au).eE (P.l++a)
def dt(a:bM)(d:List ah):Int×bM:=match a.log with
 |none=>(15,a)
 |some e=>
  let P:=aF e a.D d
  if P.1≠0 then(P.1,{a with log:=some P.2.1,D:=P.2.2})else
  let b:=P.2.2.sync P.2.1.last
  if b.1≠0 then(b.1,{a with log:=some P.2.1,D:=b.2})else
  (0,{a with log:=some P.2.1,D:=b.2,S:=eQ c a.S d})
def eh(P:bM)(d:lf):Int×(Int×Int)×bM:=match P.log with
 |none=>(15,(0,0),P)
 |some _=>
  let a:=lD c.decl P.S (cD c.decl P.S.l) self c.start d
  if a.2.2≠0 then(a.2.2,(0,0),P)else
  if a.2.1 then(let b:=dt c P [a.1];if b.1≠0 then(b.1,(0,0),b.2)else(0,aX a.1,b.2))
  else(0,aX a.1,P)
def gl(a:bM)(P b:Int):List dd×bM:=
 if P<0\/P>=c.bW\/P=self then([],a)else([km a.S self P],{a with fV:={a.fV with asked:=aI a.fV.asked P b}})
def Ja(b:bM)(P:Int):List dd×bM:=((b.fV.due P).map λa=>km b.S self a,{b with fV:=b.fV.QS P})
def gj(P:Nat):List ah->au->List ah->List ah->au×List ah×List ah
 |[],b,a,c=>(b,a,c)
 |e::d,b,a,c=>
  if(b.add e).1=0 then gj P d (b.add e).2 (a++[e]) c
  else if(b.add e).1=16 then gj P d b a c
  else gj P d b a (eN P c e).2
def eA:List ah->au->List ah->au×List ah
 |[],a,P=>(a,P)
 |e::b,a,P=>if(a.add e).1=0 then eA b (a.add e).2 (P++[e])else eA b (a.add e).2 P
def oJ:Nat->au->List ah->List ah->List ah×List ah
 |0,b,P,c=>(P,c)
 |k+1,b,P,c=>
  let a:=bH b c
  if a.1=[]then(P,a.2)else
  let d:=eA a.1 b P
  oJ k d.1 d.2 a.2
def iy(a:bM)(b:List ah):List ah×List ah:=
 let P:=gj c.buffer.toNat b (eQ c a.S []) [] a.waits
 oJ (P.2.2.length+1) P.1 P.2.1 P.2.2
def mf(P:bM)(b:dd):List dd×Int×bM:=
 let d:=iy c P b.events
 let P:={P with waits:=d.2}
 if d.1=[]then([y_ P.S self b.bU],0,P)else
 let a:=dt c P d.1
 if a.1≠0 then([],a.1,{a.2 with waits:=[]})else([y_ a.2.S self b.bU],0,a.2)
def cg(P:bM)(a:dd):List dd×Int×bM:=match P.log with
 |none=>([],15,P)
 |some _=>
  let no:=eR a c.bW.toNat c.chunk
  if no≠0 then([],no,P)else
  if a.pF≠self then([],1,P)else
  if a.kind=3 then mf c self P a else
  let P:={P with fV:=P.fV.za a.bU a.vec P.S.vec}
  if a.kind≠4 then(lH P.S self a c.chunk,0,P)else
  let b:=P.S.missing a.vec c.chunk
  if b=[]then([],0,P)else([⟨3,self,a.bU,[],b⟩],0,P)
def ix(a:bM)(P:Int):Int×bM:=fq c {a with D:=dq (a.D.dY P),waits:=[],fV:=⟨a.fV.df,[],[]⟩}
def d_(P:bM):Int×bM:=match P.log with
 |none=>(15,P)
 |some b=>
  let a:=aR b P.D P.S.l c.bl
  if a.no≠0 then(a.no,{P with D:=a.D})else(0,{P with D:=a.D,log:=some a.V})
end
def rZ:kf:=⟨[],[],[],[],[(1,⟨[0,0,2,4,8,0,0,64,128,256,544,1040,4095,8191,12287],[32767,32767,32765,32763,32759,32767,32767,32703,32639,32511,32223,31727,32766,28671,22527],[0,0,0,0,1,0,0,0,0,1,0,0,0,0,2]⟩)]⟩
def ru(y:(dr d λA B=>(rI b (ad A (B+2)) λC=>PR_ (eq_ .quo 3 (.tmp 5) (.tmp 9) (.ii e) (.ii C)) b (kI_ λP D=>(∀a,bX D a->(dr d λE F=>(rS a (ad E (F+3)) λG a3 g=>(dr d λH I=>(rI a (ad H (I+2)) λf=>((0:Int)<=(ZG .i64 (P*f))/\((ZG .i64 (P*f)):Int)<=(g:Int)/\(dr d λJ K=>PS a (ad J (K+3)) (.slice G (Int.toNat (ZG .i64 (P*f))) g) λh=>(dr d λL M=>(rS h (ad L (M+6)) λN i j=>((0:Int)<=(ZG .i64 (P+1))/\((ZG .i64 (P+1)):Int)<=(i:Int)/\PR_ (Builtin.clear_ #[220] 0 #[.slice (cI N (Int.toNat (ZG .i64 (P+1))) j 2) (i-Int.toNat (ZG .i64 (P+1))) (j-Int.toNat (ZG .i64 (P+1)))]) h (λa4 k=>(dr d λO Q=>(rS k (ad O (Q+6)) λR a5 l=>((0:Int)<=(ZG .i64 (P+1))/\((ZG .i64 (P+1)):Int)<=(l:Int)/\(dr d λS T=>PS k (ad S (T+6)) (.slice R (Int.toNat (ZG .i64 (P+1))) l) λc=>(dr d λU V=>(rS c (ad U (V+6)) λW X a6=>(ix_ W P X λm n=>(∃o p q r,c.cell? (ad m (n+Int.toNat P*2))=some (.pointer o)/\c.cell? (ad m (n+Int.toNat P*2+1))=some (.slice p q r)/\PC_ 180 #[.pointer d,.agg #[.pointer o,.slice p q r]] c (λY Z=>∃s t u v,Y= .agg #[.pointer s,.slice t u v]/\(dr d λw x=>PS Z (ad w (x+4)) (.pointer s) λa1=>PS a1 (ad w (x+4+1)) (.slice t u v) λa2=>rt z ((.tuple #[])) a2)) (pE z)))))))))) (pV z)))))))))))) (pV z)))):YX 143 #[.pointer d,.ii e] b z:=DC rZ Tryz.func143 rfl y
def AE:kf:=⟨[(2,[(5,ZH 0),(6,ZH 0)])],[],[],[],[]⟩
def AF(l:(∃f:Nat->Int->Int->ZU,(∃c,f c 0 e b)/\∀(c:Nat) (P:Int) (a:Int) (n:Nat->Value) (g:World),f c P a g->al (decide (P<a)) ((∃h i j,(.func (.func y) p X:Value)= .func (.func h) i j/\enters ZP h=true/\PC_ h (i++ #[.ii (ZG .i64 (jH .u64 (ZG .u64 (ZG .i64 (P+a))) 1))]++j) g (kB λm k=>al (!m) ((∃d,d<c/\f d (ZG .i64 ((ZG .i64 (jH .u64 (ZG .u64 (ZG .i64 (P+a))) 1))+1)) a k)) ((∃d,d<c/\f d P (ZG .i64 (jH .u64 (ZG .u64 (ZG .i64 (P+a))) 1)) k))) (pE z))) (rt z ((.ii P)) g))):YX 165 #[.ii e,.func (.func y) p X] b z:=DC AE Tryz.func165 rfl l
def CO:kf:=⟨[],[],[],[],[]⟩
def CP(P:((0:Int)<=(if(a:Int)<(if 0>e then 0 else e)then(a:Int)else(if 0>e then 0 else e))/\((if(a:Int)<(if 0>e then 0 else e)then(a:Int)else(if 0>e then 0 else e)):Int)<=(if(a:Int)<(if 0>e then 0 else e)then(a:Int)else(if 0>e then 0 else e))/\((if(a:Int)<(if 0>e then 0 else e)then(a:Int)else(if 0>e then 0 else e)):Int)<=(c:Int)/\PC_ 238 #[.slice d (Int.toNat (if(a:Int)<(if 0>e then 0 else e)then(a:Int)else(if 0>e then 0 else e))) (Int.toNat (if(a:Int)<(if 0>e then 0 else e)then(a:Int)else(if 0>e then 0 else e)))] b (kS_ λf g h i=>rt z ((.tuple #[.slice f g h,.bool (decide (((if(a:Int)<(if 0>e then 0 else e)then(a:Int)else(if 0>e then 0 else e)):Int)<(a:Int)))])) i) (pE z))):YX 167 #[.slice d a c,.ii e] b z:=DC CO Tryz.func167 rfl P
def je:kf:=⟨[(3,[(7,ZH 0),(8,ZH 0)])],[],[],[],[]⟩
def iW(m:(∃j:Nat->Int->Int->ZU,(∃h,j h 0 (a:Int) b)/\∀(h:Nat) (P:Int) (f:Int) (B:Nat->Value) (g:World),j h P f g->al (decide (P<f)) ((dr d λn o=>(0:Int)<=(ZG .i64 (jH .u64 (ZG .u64 (ZG .i64 (P+f))) 1))/\(ZG .i64 (jH .u64 (ZG .u64 (ZG .i64 (P+f))) 1))<(a:Int)/\(rI g (ad n (o+Int.toNat (ZG .i64 (jH .u64 (ZG .u64 (ZG .i64 (P+f))) 1)))) λp=>PC_ 311 #[.ii p,.ii e] g (kB λq k=>al q ((∃i,i<h/\j i (ZG .i64 ((ZG .i64 (jH .u64 (ZG .u64 (ZG .i64 (P+f))) 1))+1)) f k)) ((∃i,i<h/\j i P (ZG .i64 (jH .u64 (ZG .u64 (ZG .i64 (P+f))) 1)) k))) (pE z)))) (al (decide (P<(a:Int))) ((ix_ d P a λr s=>(rI g (ad r (s+Int.toNat P)) λt=>al (t==e) (rt z ((.tuple #[.ii P,.bool true])) g) ((ix_ d P a λu v=>(rI g (ad u (v+Int.toNat P)) λw=>PC_ 312 #[.ii w] g (kB λx l=>al x (PC_ 312 #[.ii e] l (kB λy A=>rt z ((.tuple #[.ii P,.bool y])) A) (pE z)) (rt z ((.tuple #[.ii P,.bool false])) l)) (pE z))))))) (rt z ((.tuple #[.ii P,.bool false])) g)))):YX 279 #[.slice d a c,.ii e] b z:=DC je Tryz.func279 rfl m
end
end Go.Proofs.YtblabbpipmodgaaGreatDoor
namespace Go.aw
open Go
def oO(P:Int×Int):Value:=.agg #[ZH P.1,ZH P.2]
def Ck(P:Int×Int×Int):Value:=.agg #[ZH P.1,ZH P.2.1,ZH P.2.2]
structure Jz (P:Program) (t ti:TypeId):Prop where
 hu:P.underlying t=some (.struct (P.fieldsOf t))
 ui:P.underlying ti=some (.int .i64)
 hf:∃n1 n2,(P.fieldsOf t).toList.map (λf=>(f.name,f.type,f.offset))=[(n1,ti,0),(n2,ti,1)]/\n1≠ "_"/\n2≠ "_"
 hp:P.stoodInHeld t=false
 hm:P.eqGuardType P.depth t=false
 ag:tQ P ti=false
variable{O b5 e q:Int}{S Y:Operand}{b:World}
section
variable {P:Program} {t ti:TypeId}
def Jz.equalIn(b:Jz P t ti)(f:Nat)(c d:Int×Int)(e:World):(Op.equalIn (f+2) t (oO c) (oO d)).run P e= .ok (c==d) e:=by
 obtain⟨v,w,a,g,h⟩:=b.hf;unfold oO;rw[run_equalIn_struct e (f+1) _ _ _ b.hu b.hp];generalize(P.fieldsOf t).toList=i at a
 match i,a with
 |[x,y],a=>
  simp only[QY,List.map_nil,List.cons.injEq,Prod.mk.injEq,and_true]at a;obtain⟨⟨j,k,l⟩,m,n,o⟩:=a;have p:(isAgg ti).run P e= .ok false e:=de _ _ _ b.ag ⟨_,b.ui⟩ e;have q:=run_equalIn_int (P:=P) e f ti .i64 .i64 c.1 d.1 b.ui;have r:=run_equalIn_int (P:=P) e f ti .i64 .i64 c.2 d.2 b.ui;unfold Op.eqFields Op.eqFields Op.eqFields;rw[j,k,l,m,n,o];have s:(c==d)=(c.1==d.1&&c.2==d.2):=rfl;rw[s]
  cases b:c.1==d.1<;>simp[part,p,q,r,b,g,h]
  by_cases u:c.2=d.2<;>simp[u]
 |[],a=>simp at a
 |[_],a=>simp at a
 |_::_::_::_,a=>simp at a
def Jz.eql(a:Jz P t ti){c d:ZR}(f:c (.bool (e==O&&q==b5)) b):
  aG P (do eqGuard .eql t S Y (.agg #[ZH e,ZH q]) (.agg #[ZH O,ZH b5]);binOp .eql t (.agg #[ZH e,ZH q]) (.agg #[ZH O,ZH b5]):Sem Value) b c d:=by
 refine aG.mk (v:=.bool (e==O&&q==b5)) ?_ f;rw[Sem.run_bind,run_eqGuard_agg b .eql _ S Y _ _ a.hm,Result.andThen_ok,run_eql_struct];have:=a.equalIn 9998 (e,q) (O,b5) b;unfold oO at this;rw[this];rfl
def Jz.neq(a:Jz P t ti){c d:ZR}(f:c (.bool (!(e==O&&q==b5))) b):
  aG P (do eqGuard .neq t S Y (.agg #[ZH e,ZH q]) (.agg #[ZH O,ZH b5]);binOp .neq t (.agg #[ZH e,ZH q]) (.agg #[ZH O,ZH b5]):Sem Value) b c d:=by
 refine aG.mk (v:=.bool (!(e==O&&q==b5))) ?_ f;rw[Sem.run_bind,run_eqGuard_agg b .neq _ S Y _ _ a.hm,Result.andThen_ok,run_neq_struct];have:=a.equalIn 9998 (e,q) (O,b5) b;unfold oO at this;rw[this];rfl
def Jz.check(c:Jz P t ti)(e:Nat)(h:Int×Int)(b:World)(f:Bool):(Instr.checkKey f (e+2) t (oO h)).run P b= .ok () b:=by
 obtain⟨u,v,a,i,j⟩:=c.hf;have k:(isAgg ti).run P b= .ok false b:=de _ _ _ c.ag ⟨_,c.ui⟩ b;have l:∀g:Int,(Instr.checkKey f (e+1) ti (ZH g)).run P b= .ok () b:=λg=>by simp[Instr.checkKey,run_underlying c.ui]
 unfold oO;have m:=c.hu;unfold Instr.checkKey;rw[Sem.run_bind,run_underlying m,Result.andThen_ok];generalize w:P.fieldsOf t=d at a;obtain⟨d⟩:=d
 match d,a with
 |[x,y],a=>
  simp only[QY,List.map_nil,List.cons.injEq,Prod.mk.injEq,and_true]at a;obtain⟨⟨n,o,p⟩,q,r,s⟩:=a;simp[n,o,p,q,r,s,part,k,l,i,j]
 |[],a=>simp at a
 |[_],a=>simp at a
 |_::_::_::_,a=>simp at a
def Jz.key(a:Jz P t ti):iJ P t oO:=
 iJ.struct a.hu (λb c=>rfl) (λb c d=>a.equalIn 9998 b c d) (λe d f=>a.check 9998 e d f) (λg b=>by unfold oO;simp[Instr.sameBits]) λ{b c} a=>by
  unfold oO at a;simp only[Value.agg.injEq,Array.mk.injEq,List.cons.injEq,Value.int.injEq,and_true,true_and]at a;exact Prod.ext a.1 a.2
structure vO (P:Program) (t t2 ti:TypeId):Prop where
 two:Jz P t2 ti
 hu:P.underlying t=some (.struct (P.fieldsOf t))
 hf:∃n1 n2,(P.fieldsOf t).toList.map (λf=>(f.name,f.type,f.offset))=[(n1,t2,0),(n2,ti,2)]/\n1≠ "_"/\n2≠ "_"
 hp:P.stoodInHeld t=false
 ag:tQ P t2=true
 sz:(P.info? t2).map (·.size)=some 2
variable {t2:TypeId}
def vO.Rq(c:vO P t t2 ti)(b:Int×Int×Int)(a:World):(part t2 #[ZH b.1,ZH b.2.1,ZH b.2.2] 0).run P a= .ok (oO (b.1,b.2.1)) a:=by
 obtain⟨h,d,e⟩:=Option.map_eq_some_iff.1 c.sz;have f:(isAgg t2).run P a= .ok true a:=de _ _ _ c.ag ⟨_,c.two.hu⟩ a;have g:(sizeOf t2).run P a= .ok 2 a:=by simp[sizeOf,typeInfo,d,e]
 unfold part;simp[f,g,oO]
def vO.equalIn(e:vO P t t2 ti)(g:Nat)(a b:Int×Int×Int)(c:World):(Op.equalIn (g+3) t (Ck a) (Ck b)).run P c= .ok (a==b) c:=by
 obtain⟨A,B,d,i,j⟩:=e.hf;have k:=e.Rq a c;have l:=e.Rq b c;have h:=e.two.equalIn g (a.1,a.2.1) (b.1,b.2.1) c;have n:=run_equalIn_int (P:=P) c (g+1) ti .i64 .i64 a.2.2 b.2.2 e.two.ui;have o:(isAgg ti).run P c= .ok false c:=de _ _ _ e.two.ag ⟨_,e.two.ui⟩ c;unfold Ck;rw[run_equalIn_struct c (g+2) _ _ _ e.hu e.hp];generalize(P.fieldsOf t).toList=p at d
 match p,d with
 |[C,E],d=>
  simp only[QY,List.map_nil,List.cons.injEq,Prod.mk.injEq,and_true]at d;obtain⟨⟨q,r,s⟩,u,v,w⟩:=d;unfold Op.eqFields Op.eqFields Op.eqFields;rw[q,r,s,u,v,w];have x:(a==b)=(((a.1,a.2.1):Int×Int)==(b.1,b.2.1)&&a.2.2==b.2.2):=by
   show(a.1==b.1&&(a.2.1==b.2.1&&a.2.2==b.2.2))=((a.1==b.1&&a.2.1==b.2.1)&&a.2.2==b.2.2);rw[Bool.and_assoc]
  rw[x];have y:∀f:Int×Int×Int,(part ti #[ZH f.1,ZH f.2.1,ZH f.2.2] 2).run P c= .ok (ZH f.2.2) c:=λf=>by simp[part,o]
  cases m:((a.1,a.2.1):Int×Int)==(b.1,b.2.1)with
  |false=>
   rw[m]at h;simp[k,l,h,i,j]
  |true=>
   rw[m]at h;simp[k,l,h,n,y,i,j]
   by_cases z:a.2.2=b.2.2<;>simp[z]
 |[],d=>simp at d
 |[_],d=>simp at d
 |_::_::_::_,d=>simp at d
def vO.check(d:vO P t t2 ti)(e:Nat)(c:Int×Int×Int)(a:World)(f:Bool):(Instr.checkKey f (e+3) t (Ck c)).run P a= .ok () a:=by
 obtain⟨x,y,b,i,j⟩:=d.hf;have k:=d.Rq c a;have l:(isAgg ti).run P a= .ok false a:=de _ _ _ d.two.ag ⟨_,d.two.ui⟩ a;have m:∀h:Int,(Instr.checkKey f (e+2) ti (ZH h)).run P a= .ok () a:=λh=>by simp[Instr.checkKey,run_underlying d.two.ui]
 have n:=d.two.check e (c.1,c.2.1) a f;have o:(part ti #[ZH c.1,ZH c.2.1,ZH c.2.2] 2).run P a= .ok (ZH c.2.2) a:=by simp[part,l]
 unfold Ck;have p:=d.hu;rw[show e+3=(e+2)+1 from rfl];unfold Instr.checkKey;rw[Sem.run_bind,run_underlying p,Result.andThen_ok];generalize z:P.fieldsOf t=g at b;obtain⟨g⟩:=g
 match g,b with
 |[A,B],b=>
  simp only[QY,List.map_nil,List.cons.injEq,Prod.mk.injEq,and_true]at b;obtain⟨⟨q,r,s⟩,u,v,w⟩:=b;simp[q,r,s,u,v,w,k,o,n,m,i,j]
 |[],b=>simp at b
 |[_],b=>simp at b
 |_::_::_::_,b=>simp at b
def vO.key(a:vO P t t2 ti):iJ P t Ck:=
 iJ.struct a.hu (λb c=>rfl) (λb c d=>a.equalIn 9997 b c d) (λe d f=>a.check 9997 e d f) (λg b=>by unfold Ck;simp[Instr.sameBits]) λ{b c} a=>by
  unfold Ck at a;simp only[Value.agg.injEq,Array.mk.injEq,List.cons.injEq,Value.int.injEq,and_true,true_and]at a;exact Prod.ext a.1 (Prod.ext a.2.1 a.2.2)
end
end Go.aw
namespace Go.Proofs.YtblabbpipmodgaaGreatDoor
open Go.aw
abbrev EE:Int×Int->Value:=oO
def LQ:Jz ZP 39 3:=⟨kR,kR,⟨ "Origin", "Seq",kR,dC,dC⟩,kR,kR,kR⟩
def Wb:iJ ZP 39 EE:=LQ.key
abbrev rC:ah:=⟨0,0,0,[],0,0,0,0,0,0⟩
abbrev jS(P:ah)(a:YQ)(b c:Nat):Value:=.agg (aD P a b c).toArray
def Rh:mE ZP 181 39 55 (jS rC none 0 0):=⟨kR,kR⟩
def kq{d:World}{D:ZN}:∀{P:List Int} {cs:List Value},bR aM d D P cs↔cs=ints P/\∀x∈P,aN x
 |[],cs=>by simp[bR,ints]
 |x::P,cs=>by
  constructor
  ·rintro⟨h,i,rfl,⟨rfl,e⟩,f⟩
   obtain⟨rfl,g⟩:=kq.1 f;exact⟨rfl,λb a=>by rcases Q2.1 a with rfl|a;exact e;exact g b a⟩
  ·rintro⟨rfl,c⟩
   exact⟨[ZH x],ints P,rfl,⟨rfl,c x (QV ..)⟩,kq.2 ⟨rfl,λb a=>c b (QJ _ a)⟩⟩
variable{p:Array Value}{e:Int}{b2 s:List Int}{a2:List Value}{F a c i o:Nat}{f:ZN}{C:Nat×Nat}{d:YQ}{h:Program}{j:Type}{A g n:TypeId}{u:Value}{m t:ZR}{b k:World}{x:ZU}{K l:ah}{E:au}
def Ri(h:aU aM g f b d a c s)(n:i<s.length)(p:aN e)(q:d=some ⟨o,F,none⟩)(j:∀P,aU aM g f P d a c (s.set i e)->aj (λo=>aH d=some o) b P->P.heap.size=b.heap.size->x P):PS b ⟨o,F+i,none⟩ (ZH e) x:=by
 obtain⟨cs,D,r,t,u⟩:=h.body;obtain⟨rfl,k⟩:=kq.1 t;refine r.set (m:=i) (by rw[jr];exact n) q λP v w m=>j P ⟨⟨_,D,v,kq.2 ⟨?_,?_⟩,u⟩,h.self,λo k=>by rw[m];exact h.aE o k⟩ w m
 ·unfold ints;rw[List.map_set]
 ·intro y l
  rcases List.mem_or_eq_of_mem_set l with l|rfl
  ·exact k y l
  ·exact p
def S_(c:World)(D:ZN)(d:Value)(P:ah):Prop:=∃a b e,d=jS P a b e/\Row aM 8 c D a b P.aJ/\P.Ok
def S_.keep{S D:ZN}(a:S_ b D u l)(c:aj S b k)(d:∀P,D P->¬S P):S_ k D u l:=by
 obtain⟨e,f,g,h,i,j⟩:=a;exact⟨e,f,g,h,i.keep c d,j⟩
def S_.mono{D P:ZN}(c:S_ b D u l)(d:∀a,D a->P a):S_ b P u l:=by
 obtain⟨e,f,g,h,i,j⟩:=c;exact⟨e,f,g,h,i.mono d,j⟩
def BV:rC.Ok:=by constructor<;>simp[aN]
def mr{D:ZN}(i:Row aM 8 b D d a l.aJ)(u:∀P,D P->P<b.heap.size):
  YX 142 #[jS l d a c] b (Ok λv j=>∃d a c G,v=jS l d a c/\Row aM 8 j G d a l.aJ/\(∀P,G P->b.heap.size<=P/\P<j.heap.size)/\ai b j):=by
 have w:=i.dO;have x:=i.len;refine yF (PA.mk λA o B f=>PA.mk λC g E k=>⟨_,_,_,ae (g.get f id) rfl,PC.ok (ck (i.af (o.then g)) λP e=>by have:=u P e;omega) ?_⟩);rintro _ F ⟨p,q,r,G,rfl,s,h,m⟩;have f:=h.get (g.get f id) id;have k:=h.get k id;refine⟨_,_,_,rfl,PS.mk f (by simp[aD]) λH n I y=>?_⟩;refine ar (cs:=aD l p q r) (bf _ _ _ _) y (aC (bf _ _ _ _) (n.get k oM) rfl λJ t K z=>ar (bf _ _ _ _) z (Ok.mk ⟨p,q,r,G,rfl,?_,?_,?_⟩))
 ·refine(((s.keep n λP e=>?_).keep t λP e=>?_).row (bytes:=8) dC (by rw[<-x];exact w))
  ·have:=m P e;omega
  ·have:=m P e;omega
 ·intro P e
  have:=m P e;have:=s.aE P e;omega
 ·have L:=h.size
  exact((aj.new ((o.then g).then h) n λP e=>.inr oM).new t λP e=>.inr oM)
structure Rj where
 a:YQ
 n:Nat
 c:Nat
 r:Nat
 V:ZN
 D:ZN
 l:List ((Int×Int)×Value)
 L:List ((Int×Int)×ah)
structure qT (w:World) (p:Nat) (F:ZN) (S:au) (q:Rj):Prop where
 at':w.heap[p]? =some (.cells #[.slice q.a q.n q.c,.map (some q.r),ZH S.top] 183 (0,0))
 vec:aU aM 3 q.V w q.a q.n q.c S.vec
 map:bY w q.r EE q.l
 rel:fu (S_ w q.D) q.l q.L
 key:∀x∈q.L,x.1=aX x.2
 VJ:(q.L.map (·.2)).Perm S.l
 aE:∀b,F b->b<w.heap.size
 sub:∀b,b=p\/b=q.r\/q.V b\/q.D b->F b
 VK:p≠q.r
 UX:¬q.V p/\¬q.V q.r
 VL:¬q.D p/\¬q.D q.r
 Xh:∀b,q.V b->¬q.D b
def cJ(a:World)(b:Nat)(c:ZN)(P:au):Prop:=P.OK/\∃d,qT a b c P d
section
variable {w w' w1:World} {p:Nat} {F T:ZN} {S:au} {q:Rj}
def qT.keep(P:qT w p F S q)(b:aj T w w')(d:∀a,F a->¬T a):qT w' p F S q:=
 ⟨b.get P.at' (d p (P.sub p (.inl rfl))),P.vec.keep b λa c=>d a (P.sub a (.inr (.inr (.inl c)))),P.map.keep b (d _ (P.sub _ (.inr (.inl rfl)))),
  P.rel.mono λf g e=>e.keep b λa c=>d a (P.sub a (.inr (.inr (.inr c)))),P.key,P.VJ,λa c=>Qk (P.aE a c) b.size,P.sub,P.VK,P.UX,P.VL,P.Xh⟩
def qT.af(P:qT w p F S q)(a:ai w w'):qT w' p F S q:=P.keep a λ_ _ P=>P
def cJ.keep(P:cJ w p F S)(b:aj T w w')(c:∀a,F a->¬T a):cJ w' p F S:=⟨P.1,P.2.imp λq d=>d.keep b c⟩
def cJ.af(P:cJ w p F S)(a:ai w w'):cJ w' p F S:=P.keep a λ_ _ P=>P
def cJ.aE(a:cJ w p F S):∀P,F P->P<w.heap.size:=a.2.elim λq b=>b.aE
def qT.tidy(P:qT w p F S q):Tidy q.L:=by
 have:=P.map.tidy;unfold Tidy at*;rw[<-P.rel.keys];exact this
def qT.len(P:qT w p F S q):q.n=S.n:=by rw[P.vec.len dC,S.b_]
def qT.VM(P:qT w p F S q)(a:S.OK):Row aM 8 w q.V q.a q.n S.vec:=P.vec.row dC (by rw[S.b_];have:=a.n;unfold aO;omega)
def qT.look(a:qT w p F S q)(d:S.OK)(P:Int×Int):(aq q.l P=none/\S.get P=none)\/∃b c,aq q.l P=some b/\S.get P=some c/\S_ w q.D b c:=by
 rw[<-Jo d a.key a.VJ a.tidy P];exact a.rel.aq P
def lx(P:cJ w p F S):YX 48 #[ZL p] w (Ok (pC aM 3 w S.vec)):=by
 obtain⟨a,q,P⟩:=P;refine wj ⟨p,0,rfl,_,_,_,ae P.at' rfl,PC.ok (ck (P.VM a) λb c=>P.vec.aE b c) ?_⟩;rintro _ j ⟨d,e,f,G,rfl,g,h,i⟩;exact⟨_,_,_,rfl,Ok.mk ⟨d,e,f,G,rfl,g,h,i⟩⟩
def GP(P:cJ w p F S):YX 90 #[ZL p] w (Ok λa w'=>a= ZH S.top/\w=w'):=by
 obtain⟨b,q,P⟩:=P;exact wu ⟨p,0,rfl,_,ae P.at' rfl,Ok.mk ⟨rfl,rfl⟩⟩
def Rk(r:cJ w p F S){D:ZN}(s:Row aM 8 w D d a l.aJ)(he:l.Ok)(hn:l.aJ.length=S.n){o:Nat}(ho:o<S.n):
  YX 141 #[ZL p,jS l d a c,ZH (o:Int)] w (Ok λk w'=>k= .bool (S.lO l o)/\ai w w'):=by
 obtain⟨t,q,r⟩:=r;have b1:=s.len;have hN:=t.n;refine uA (PA.mk λw1 j s1 L=>?_);have Z:=s.af j;obtain⟨u,v,g,ha,hx,-,hc⟩:=Z.lN (i:=o) oM;have M:l.aJ.getD o 0=g:=by rw[QQ,hx];rfl
 refine⟨_,_,_,ae L rfl,u,v,ha,oM,oM,g,hc,al.eD (λx=>Ok.mk ⟨?_,j⟩) (λx=>?_)⟩
 ·unfold au.lO;simp only[M,x];rfl
 have y:=r.af j;have e:∀{z:Bool} {w':World},ai w w'->(match S.get (o,g)with
  |none=>false
  |some b=>decide (b.aB<l.aB)&&(List.range b.aJ.length).all λi=>decide (b.aJ.getD i 0<=l.aJ.getD i 0))=z->Ok (λk w'=>k= .bool (S.lO l o)/\ai w w') (.returned (.bool z)) w':=λ{z w'} hg hy=>by
  refine Ok.mk ⟨?_,hg⟩;unfold au.lO;simp only[M];rw[<-hy,show(g==0)=false by simpa using x]
  rfl
 refine⟨p,0,rfl,_,ae y.at' rfl,mG (enc:=EE) (k:=((o:Int),g)) Rh Wb y.map ?_⟩;rcases y.look t (o,g)with⟨A,h⟩|⟨k,b,A,h,N,m,O,rfl,a0,b2⟩
 ·rw[A]
  refine cm (rA rC none 0 0) ⟨_,rfl,PA.mk λw2 B s2 C=>aC (bf rC none 0 0) C rfl λE H s3 I=>al.tt rfl (e (j.then ((B.then (aj.refl _)).new H λu hb=>.inr oM)) ?_)⟩;rw[h]
 ·rw[A]
  refine cm (rA b N m O) ⟨_,rfl,PA.mk λw2 B s2 C=>aC (bf b N m O) C rfl λE H s3 I=>al.ff rfl ?_⟩;have J:ai w1 E:=(B.then (aj.refl _)).new H λu hb=>.inr oM;have n:=j.then J;have Q:=J.get L id;have a1:=au.get_some h;have b3:b.aJ.length=S.n:=by have:=mK (t.VX b a1.1);omega
  refine⟨_,ae I rfl,_,ae Q rfl,al.dec (λhl=>e n ?_) (λhl=>?_)⟩
  ·rw[h]
   simp only[Bool.and_eq_false_iff,decide_eq_false_iff_not];left;omega
  have a2:=s.af n;have R:=a0.af J;have b6:=R.len;refine⟨_,_,_,ae I rfl,λT i w'=>∃P:Nat,i=P/\P<=m/\T=m-P/\(∀f,f<P->b.aJ.getD f 0<=l.aJ.getD f 0)/\E=w',⟨_,0,rfl,Qj _,rfl,λf K=>oM,rfl⟩,?_⟩;rintro T i _ _ ⟨P,rfl,hj,rfl,U,rfl⟩;refine al.dec (λb7=>?_) (λb8=>?_)
  ·obtain⟨b4,o4,V,a3,a4,-,a5⟩:=R.lN (i:=P) oM
   obtain⟨b5,o5,W,a6,a7,-,a8⟩:=a2.lN (i:=P) oM;have X:b.aJ.getD P 0=V:=by rw[QQ,a4];rfl
   have Y:l.aJ.getD P 0=W:=by rw[QQ,a7];rfl
   refine⟨b4,o4,a3,oM,oM,V,a5,_,_,_,ae Q rfl,b5,o5,a6,oM,oM,W,a8,al.dec (λa9=>e n ?_) (λb9=>?_)⟩
   ·rw[h]
    simp only[Bool.and_eq_false_iff];right;rw[List.all_eq_false];exact⟨P,by simp;omega,by rw[X,Y];simpa using a9⟩
   ·refine⟨_,oM,P+1,an oM,oM,rfl,λf K=>?_,rfl⟩
    by_cases b0:f=P
    ·subst b0;rw[X,Y];omega
    ·exact U f oM
  ·refine e n ?_
   rw[h];simp only[QK,ZY,Zk];exact⟨oM,λf K=>U f (by simp at K;omega)⟩
def RM(e:cJ w p F S)(k:Int×Int):
  YX 232 #[ZL p,EE k] w (Ok λz w'=>∃c d f G,z= .tuple #[jS ((S.get k).getD rC) c d f,.bool (S.get k).isSome]/\Row aM 8 w' G c d ((S.get k).getD rC).aJ/\(∀P,G P->w.heap.size<=P/\P<w'.heap.size)/\ai w w'):=by
 obtain⟨L,q,e⟩:=e;obtain⟨i,j⟩:=k;refine wK (PA.mk λw1 M s1 l=>PA.mk λA B s2 u=>λm C=>?_);have v:ai A m:=C.keep;have s3:m.heap.size=A.heap.size:=by rw[C.heap]
 have l:=v.get (B.get l id) id;have u:=v.get u id;have E:=(M.then B).then v;have x:=e.af E;have a2:=e.map.lt;have a3:=aA e.at';obtain⟨b,c,d,f,P,g,h,H,N,O⟩:∃(b:ah) (c:YQ) (d f:Nat) (P:Bool),(aq q.l (i,j)).getD (jS rC none 0 0)=jS b c d f/\(aq q.l (i,j)).isSome=P/\(S.get (i,j)).getD rC=b/\(S.get (i,j)).isSome=P/\Row aM 8 m q.D c d b.aJ:=by
  rcases x.look L (i,j)with⟨g,h⟩|⟨z,Q,g,h,R,T,U,rfl,V,a4⟩
  ·exact⟨rC,none,0,0,false,by rw[g];rfl,by rw[g];rfl,by rw[h];rfl,by rw[h];rfl,Row.nil _ _⟩
  ·exact⟨Q,R,T,U,true,by rw[g];rfl,by rw[g];rfl,by rw[h];rfl,by rw[h];rfl,V⟩
 have I:∀P,q.D P->P<w.heap.size:=λP a=>e.aE P (e.sub P (.inr (.inr (.inr a))));refine⟨λP=>P=m.heap.size,p,0,rfl,oM,_,ae x.at' rfl,oM,_,_,ae l rfl,ae l rfl,cm (rA b c d f) ⟨P,λw' W=>?_,PA.mk λw4 n s4 X=>⟨ai.keep n,aC (bf b c d f) X rfl λw5 o s5 Y=>⟨o,?_⟩⟩⟩⟩
 ·have:=eH Rh Wb (x.map.keep W oM) (i,j) true
  rw[g,h]at this;exact this
 have Z:=(O.af n).keep o λP a hn=>by have:=I P a;omega
 refine ar (bf b c d f) Y (PC.ok (mr Z λP a=>by have:=I P a;omega) ?_);rintro _ w6 ⟨r,s,t,G,rfl,a0,J,y⟩;have a1:=y.get (o.get (n.get u id) oM) id;have z6:=y.size;refine cm (rA b r s t) ⟨rfl,aC (bf b r s t) a1 rfl λw7 K s7 g7=>ar (bf b r s t) g7 (Ok.mk ⟨r,s,t,G,by rw[H,N],?_,?_,?_⟩)⟩
 ·rw[H];exact a0.keep K λP a hn=>by have:=J P a;omega
 ·intro P a;have:=J P a;omega
 ·exact(((E.then n).new o λP a=>.inr oM).then y).new K λP a=>.inr oM
end
section
variable {w w' w1:World} {p:Nat} {F T:ZN} {S:au} {q:Rj}
def Dw{S:au}:((List.range a).any λP=>!S.lO l P)=false↔∀P,P<a->S.lO l P=true:=by
 simp[List.any_eq_false]
def uf(f:cJ w p F S){e:ah}{D:ZN}(A:Row aM 8 w D d a e.aJ)(hD:∀P,D P->P<w.heap.size/\¬F P)(he:e.Ok)(hl:S.l.length<4611686018427387904):
  YX 75 #[ZL p,jS e d a c] w (Ok λB w'=>B= ZH (S.add e).1/\∃C,cJ w' p C (S.add e).2/\cQ F w C w'):=by
 have fy:=f;obtain⟨E,q,f⟩:=f;have hN:=E.n;have b2:=f.len;have i9:=aA f.at';have j0:=f.map.lt;have d3:=f.VM E;have g:∀{no:Int} {w':World},ai w w'->S.add e=(no,S)->Ok (λB w'=>B= ZH (S.add e).1/\∃C,cJ w' p C (S.add e).2/\cQ F w C w') (.returned (ZH no)) w':=λ{no w'} hg ha=>by
  refine Ok.mk ⟨by rw[ha],F,?_,ai.keep hg,λP b=>.inl b⟩;rw[ha];exact fy.af hg
 refine wo (PA.mk λw1 k1 s1 g1=>λw2 d2=>?_);have k2:ai w1 w2:=d2.keep;have s2:w2.heap.size=w1.heap.size:=by rw[d2.heap]
 have N:=k1.then k2;have g2:=k2.get g1 id;have h4:=f.af N;refine ar (bf e d a c) g2 ⟨p,0,rfl,_,_,_,ae h4.at' rfl,PC.ok (xB (A.af N) (by rw[b2];omega)) ?_⟩;rintro _ w3 ⟨rfl,O⟩;rw[b2];refine⟨_,rfl,al.dV (λH=>g (N.then O) ?_) (λQ=>?_)⟩
 ·rw[au.add_def,Zx H]
 obtain⟨c1,c5,c3,c6,c7,c8,c9,f0,f1,j1⟩:=mK Q;obtain⟨o,n⟩:∃o:Nat,e.origin=o:=⟨e.origin.toNat,oM⟩
 have I:o<S.n:=oM
 intro w4 d4;have k4:ai w3 w4:=d4.keep;have s4:w4.heap.size=w3.heap.size:=by rw[d4.heap]
 have d5:=(N.then O).then k4;have z3:=O.size;have g4:=k4.get (O.get g2 id) id;have b3:=f.af d5;obtain⟨r,a5,n5,d6,P,m,J,j⟩:∃(r:ah) (d:YQ) (a c:Nat) (P:Bool),(aq q.l (aX e)).getD (jS rC none 0 0)=jS r d a c/\(aq q.l (aX e)).isSome=P/\(S.get (aX e)).isSome=P:=by
  rcases b3.look E (aX e)with⟨m,J⟩|⟨B,a0,m,J,b8,n3,c3,rfl,j2,j3⟩
  ·exact⟨rC,none,0,0,false,by rw[m];rfl,by rw[m];rfl,by rw[J];rfl⟩
  ·exact⟨a0,b8,n3,c3,true,by rw[m];rfl,by rw[m];rfl,by rw[J];rfl⟩
 refine⟨λP=>P=w4.heap.size,p,0,rfl,oM,_,ae b3.at' rfl,oM,_,_,ae g4 rfl,ae g4 rfl,cm (rA r a5 n5 d6) ⟨P,λw' K=>?_,PA.mk λw5 k5 s5 g5=>⟨ai.keep k5,aC (bf r a5 n5 d6) g5 rfl λw6 k6 s6 g6=>⟨k6,?_⟩⟩⟩⟩
 ·have:=eH Rh Wb (b3.map.keep K oM) (aX e) true
  rw[m,J]at this;exact this
 have R:ai w w6:=(d5.then k5).new k6 λP b=>.inr oM;have b4:=k6.get (k5.get g4 id) oM;have h5:=f.af R;refine al.mk (λs=>g R ?_) (λhf=>?_)
 ·rw[au.add_def,Zq (by simpa using Q),Zx (by rw[j,s])]
 obtain⟨c2,o8,x8,h6,d8,-,h7⟩:=(d3.af R).lN (i:=o) oM;have d9:x8=(S.Fg o:Int):=by rw[S.oz I]at d8;exact(XJ d8).symm
 subst d9;have j4:=S.QP o;refine⟨_,ae b4 rfl,p,0,rfl,_,_,_,ae h5.at' rfl,_,ae b4 rfl,c2,o8,h6,c1,oM,_,by rw[n];exact h7,λw7 d7=>?_⟩;have k7:ai w6 w7:=d7.keep;have s7:w7.heap.size=w6.heap.size:=by rw[d7.heap]
 have b5:=R.then k7;rw[an oM];refine al.dV (λH=>g b5 ?_) (λe0=>?_)
 ·rw[au.add_def,Zq (by simpa using Q),Zq (by rw[j,hf];simp),Zx]
  rw[n,Qx,S.uh I];simpa using H
 have h8:=f.af b5;have h9:=k7.get b4 id;have c4:e.seq=S.vec.getD e.origin.toNat 0+1:=by rw[n,Qx,S.uh I];simpa using e0
 have k:∀{a1:Int×au},(if(List.range S.n).any λo=>!S.lO e o then((9:Int),S)else(0,⟨S.n,dH e S.l⟩))=a1->S.add e=a1:=λ{a1} A=>by
  rw[au.add_def,Zq (by simpa using Q),Zq (by rw[j,hf];simp),Zq (by simpa using c4)];exact A
 refine⟨p,0,rfl,_,_,_,ae h8.at' rfl,λa3 i w'=>∃h:Nat,i=h/\h<=S.n/\a3=S.n-h/\(∀l,l<h->S.lO e l=true)/\ai w7 w',⟨_,0,rfl,Qj _,rfl,λl s=>oM,aj.refl _⟩,?_⟩;rintro a3 i _ w8 ⟨h,rfl,hj,rfl,a4,T⟩;have U:=b5.then T;have e1:=T.get h9 id;have z8:=T.size;rw[b2];refine al.dec (λj5=>?_) (λj6=>?_)
 ·refine ar (bf e d a c) e1 (PC.ok (Rk (fy.af U) (A.af U) he oM (o:=h) oM) ?_)
  rintro _ w9 ⟨rfl,k9⟩;refine⟨_,rfl,al.not (al.mk (λK=>?_) (λK=>g (U.then k9) (k (Zx ?_))))⟩
  ·refine⟨_,oM,h+1,an oM,oM,rfl,λl s=>?_,T.then k9⟩
   by_cases i0:l=h
   ·rw[i0];exact K
   ·exact a4 l oM
  ·rw[List.any_eq_true]
   exact⟨h,by simp;omega,by rw[K];rfl⟩
 ·have a6:=k (Zq (by rw[Bool.not_eq_true,Dw];intro l s;exact a4 l oM))
  intro e2 e3;have e4:ai w8 e2:=e3.keep;have j7:e2.heap.size=w8.heap.size:=by rw[e3.heap]
  have L:=U.then e4;have V:=e4.get e1 id;have e5:=f.af L;have i1:=(A.af L)
  refine⟨λP=>P=q.r,p,0,rfl,f.VK,_,ae e5.at' rfl,oM,_,_,ae V rfl,ae V rfl,ar (bf e d a c) V (PC.ok (mr i1 λP b=>by have:=(hD P b).1;have:=L.size;omega) ?_)⟩;rintro _ i2 ⟨b7,b9,c0,G,rfl,e6,hG,W⟩;have a7:=L.then W;have X:=f.af a7;have i8:=L.size;refine cm (rA e b7 b9 c0) ⟨rfl,ai.keep W,iX (enc:=EE) (k:=aX e) Rh Wb X.map λe7 e8 t j8=>⟨t,λe9 f2=>?_⟩⟩;have u:ai e7 e9:=f2.keep;have j9:e9.heap.size=e7.heap.size:=by rw[f2.heap]
  have a8:=u.get (t.get X.at' f.VK) id;have a9:=u.get (t.get (W.get V id) oM) id;have b0:=(X.vec.keep t λP b e=>f.UX.2 (e▸b)).af u;obtain⟨f3,f4,i3,a2,b1,-,f5⟩:=(b0.row (bytes:=8) dC (by rw[S.b_];unfold aO;omega)).lN (i:=o) oM;have d0:i3=(S.Fg o:Int):=by rw[S.oz I]at b1;exact(XJ b1).symm
  subst d0;refine⟨p,0,rfl,_,_,_,ae a8 rfl,_,ae a9 rfl,f3,f4,a2,c1,oM,_,by rw[n];exact f5,f3,f4,a2,c1,oM,?_⟩;rw[n,Qx,an oM];refine Ri b0 (by rw[S.b_];exact I) bb a2 λf6 g0 M k0=>λg3 g7=>?_;have v:ai f6 g3:=g7.keep;have l0:g3.heap.size=f6.heap.size:=by rw[g7.heap]
  have x:∀P,aH q.a=some P->q.V P:=λP b=>f.vec.self P b;have i4:¬aH q.a=some p:=λe=>f.UX.1 (x p e);have i5:¬aH q.a=some w.heap.size:=λe=>by have:=f.vec.aE _ (x _ e);omega
  have b6:=v.get (M.get a8 i4) id;have g8:=v.get (M.get a9 i5) id;refine⟨p,0,rfl,_,ae b6 rfl,_,ae g8 rfl,p,0,rfl,PS.mk b6 sM λg9 Y l3 i6=>?_⟩;have l4:=W.size;have i7:¬aH q.a=some q.r:=λe=>f.UX.2 (x _ e);refine Ok.mk ⟨by rw[a6],λP=>F P\/G P,?_,?_,?_⟩
  rotate_left
  ·have Z:aj F w g9:=((((ai.keep a7).then (t.mono λP _ b=>f.sub P (.inr (.inl b)))).then (ai.keep u)).then ((M.mono λP _ b=>f.sub P (.inr (.inr (.inl (x P b))))).then (ai.keep v))).then (Y.mono λP _ b=>f.sub P (.inl b))
   exact Z
  ·intro P b;rcases b with b|b
   ·exact .inl b
   ·exact .inr (by have:=hG P b;omega)
  have h3:=(au.zN E he).1;rw[a6]at h3⊢;have y:∀P,G P->P≠p/\P≠q.r/\¬q.V P:=λP b=>by
   have:=hG P b;refine⟨oM,oM,λhv=>?_⟩;have:=f.vec.aE P hv;omega
  refine⟨h3,⟨q.a,q.n,q.c,q.r,q.V,λP=>q.D P\/G P,aI q.l (aX e) (jS e b7 b9 c0),aI q.L (aX e) e⟩,?_,?_,?_,?_,?_,?_,?_,?_,f.VK,f.UX,?_,?_⟩
  ·have s:(if e.aB>S.top then e.aB else S.top)=max S.top e.aB:=by split<;>omega
   rw[i6,au.Ta,<-s];rfl
  ·rw[show au.vec ⟨S.n,dH e S.l⟩=S.vec.set o ((S.Fg o+1:Nat):Int) by rw[au.Tb S e n];simp]
   exact(g0.af v).keep Y λP b e=>f.UX.1 (e▸b)
  ·exact(((e8.af u).keep M i7).af v).keep Y λe=>f.VK e.symm
  ·have Z:aj (λP=>P=q.r\/aH q.a=some P\/P=p) i2 g9:=((t.mono λP _ b=>.inl b).then (ai.keep u)).then (((M.mono λP _ b=>.inr (.inl b)).then (ai.keep v)).then (Y.mono λP _ b=>.inr (.inr b)))
   have hd:∀P,q.D P\/G P->¬(P=q.r\/aH q.a=some P\/P=p):=by
    rintro P (b|b) (e|e|e)
    ·exact f.VL.2 (e▸b)
    ·exact f.Xh P (x P e) b
    ·exact f.VL.1 (e▸b)
    ·exact(y P b).2.1 e
    ·exact(y P b).2.2 (x P e)
    ·exact(y P b).1 e
   refine fu.aI ⟨b7,b9,c0,rfl,(e6.mono λP b=>.inr b).keep Z hd,he⟩ (X.rel.mono λB f7 hu=>(hu.mono λP b=>.inl b).keep Z hd)
  ·intro r j
   rcases fr j with rfl|j
   ·rfl
   ·exact f.key r j
  ·have d1:aq q.L (aX e)=none:=by
    rw[Jo E f.key f.VJ f.tidy];have:=j.trans hf;simpa using this
   have:∀z:List ((Int×Int)×ah),aq z (aX e)=none->aI z (aX e) e=z++[(aX e,e)]:=by
    intro z
    induction z with
    |nil=>intro _;rfl
    |cons a0 z ih=>
     intro hL;obtain⟨y1,y2⟩:=a0;unfold aq at hL;unfold aI;split at hL
     ·cases hL
     ·rename_i H
      rw[Zq H,ih hL];rfl
   rw[this _ d1,Q3];exact(List.perm_append_comm.trans (List.Perm.cons e f.VJ)).trans (cT e S.l).symm
  ·intro P b
   rcases b with b|b
   ·have:=f.aE P b;omega
   ·have:=hG P b;omega
  ·rintro P (b|b|b|b|b)
   ·exact .inl (f.sub P (.inl b))
   ·exact .inl (f.sub P (.inr (.inl b)))
   ·exact .inl (f.sub P (.inr (.inr (.inl b))))
   ·exact .inl (f.sub P (.inr (.inr (.inr b))))
   ·exact .inr b
  ·refine⟨?_,?_⟩
   ·rintro(b|b)
    ·exact f.VL.1 b
    ·exact(y _ b).1 rfl
   ·rintro(b|b)
    ·exact f.VL.2 b
    ·exact(y _ b).2.1 rfl
  ·rintro P hv (b|b)
   ·exact f.Xh P hv b
   ·exact(y _ b).2.2 hv
def Tc(e:jq h g n 1 8)(b:(h.info? n).bind (·.zero)=some (ZH 0))(f:a<=c)(P:c*8<=aO){w:World}(d:∀w',aU aM n (·=w.heap.size) w' (ZM w.heap.size) a c (List.replicate a 0)->ai w w'->w'.heap.size=w.heap.size+1->m (.slice (ZM w.heap.size) a c) w'):
  aG h (Instr.makeSlice g (ZH (a:Int)) (ZH (c:Int))) w m t:=by
 unfold aO at P;obtain⟨l,o,i,j,p,q,y⟩:=e.info;have r:o= ZH 0:=by
  rw[i]at b;simp only[Option.bind_some,j]at b;exact XJ b
 subst r;have k:=run_make (P:=h) w g n l _ e.under i j .i64 .i64 a c oM oM (by rw[q];omega) oM;rw[Qx,Qx,p,Nat.mul_one]at k;have s:ai w (w.alloc (.cells (madeCells (Value.int .i64 0).cells c) n)):=aj.alloc w _;have u:(madeCells (Value.int .i64 0).cells c).toList=List.replicate c (ZH 0):=by
  unfold madeCells;rw[Array.toList_map];apply List.ext_getElem
  ·simp
  ·intro z A B
   simp[Value.cells,Nat.mod_one]
 refine aG.mk k (d _ ⟨⟨List.replicate a (ZH 0),λ_=>False,⟨⟨by simp[aM,flat],.inr ⟨w.heap.size,c,_,rfl,Qj _,heap_alloc_new w _,f,by unfold maxLen;omega,by simp[size_madeCells,aM,flat],?_⟩⟩⟩,?_,λ_ d=>d.elim⟩,λv P=>by simpa[aH]using P.symm,λv P=>by subst P;simp⟩ s sM)
 ·rw[u]
  simp only[aM,flat,Nat.mul_one,List.take_replicate];rw[X2 f]
 ·exact kq.2 ⟨by simp[ints],λC x=>by rw[List.eq_of_mem_replicate x];simp[aN]⟩
def EX(g:a<=64):YX 72 #[ZH (a:Int)] w (Ok λh w'=>∃p F,h= ZL p/\cJ w' p F ⟨a,[]⟩/\(∀P,F P->w.heap.size<=P)/\ai w w'):=by
 refine FE (Tc sj kR (Q4 _) ba λw1 i j r=>⟨_,_,_,rfl,PA.mk λe f s k=>PA.mk λl c t m=>Ok.mk ⟨_,λP=>w.heap.size<=P/\P<l.heap.size,rfl,⟨au.sQ g,⟨_,a,a,w1.heap.size,(·=w.heap.size),λ_=>False,[],[]⟩,m,?_,bY.new (c.get k id),trivial,sM,List.Perm.refl _,λP b=>b.2,?_,by show e.heap.size≠w1.heap.size;omega,⟨by show e.heap.size≠_;omega,by show w1.heap.size≠_;omega⟩,⟨id,id⟩,λ_ _ n=>n⟩,λP b=>b.1,(j.then f).then c⟩⟩)
 ·have o:au.vec ⟨a,[]⟩=List.replicate a 0:=by
   apply X3;intro q
   by_cases d:q<a
   ·rw[au.oz ⟨a,[]⟩ d];simp[d,au.Fg]
   ·rw[Q7 (by rw[au.b_];exact Nat.le_of_not_lt d),Q7 bc]
  rw[o];exact(i.af f).af c
 ·rintro P (rfl|rfl|rfl|b)
  ·show _/\_;omega
  ·show _<=w1.heap.size/\w1.heap.size<_;omega
  ·omega
  ·exact b.elim
end
def eJ{c:jU j}{q o:Nat}{r:List j}{bytes:Nat}{x:j}(l:aU c g f b d q o r)(J:jq h n g c.k bytes)(N:b.heap[a]? =some (.cells p g C)){D:ZN}(z:c.rep b D x p.toList)(s:∀P,D P->P<b.heap.size/\aH d≠some P)(e:(r.length+1)*bytes<=aO)(O:r.length+1<=maxLen)(B:∀u k F v,aU c g v F u (q+1) k (r++[x])->aj (λH=>aH d=some H) b F->(∀P,v P->f P\/D P\/b.heap.size<=P)->m (.slice u (q+1) k) F):
  aG h (Builtin.append_ #[n,n] A #[.slice d q o,.slice (ZM a) 1 1]) b m t:=by
 have K:=l.len J.pos;obtain⟨cs,Q,R,S,w⟩:=l.body;have V:=c.len z;refine zh J (news:=p.toList) R N (by rw[Qz oM]) oM (c.one z) (by rw[K];exact e) (by rw[K];exact O) λu T y L M E=>?_;have I:aj (λH=>aH d=some H) b y:=(M.mono λ_ _ l=>l.symm)
 let v:ZN:=λP=>f P\/D P\/(b.heap.size<=P/\P<y.heap.size)
 have W:b.heap.size<=y.heap.size:=M.size;refine B u T y v ⟨⟨_,λP=>Q P\/D P,L,bR.append ((S.keep I λP e=>(w P e).2).mono λP e=>.inl e) (bR.one (c.mono (c.keep z I λP e=>(s P e).2) λP e=>.inr e)),?_⟩,?_,?_⟩ I ?_
 ·intro P e
  have X:P<b.heap.size:=e.elim (λi=>l.aE P (w P i).1) λi=>(s P i).1;refine⟨e.elim (λi=>.inl (w P i).1) λi=>.inr (.inl i),?_⟩;rcases E with E|E
  ·rw[E];exact e.elim (λi=>(w P i).2) λi=>(s P i).2
  ·rw[E];intro U;cases U;omega
 ·intro P e
  rcases E with E|E
  ·exact .inl (l.self P (E▸e))
  ·have:=L.lt e
   rw[E]at e;cases e;exact .inr (.inr ⟨oM,this⟩)
 ·rintro P (e|e|e)
  ·have:=l.aE P e;omega
  ·have:=(s P e).1;omega
  ·exact e.2
 ·rintro P (e|e|e)
  ·exact .inl e
  ·exact .inr (.inl e)
  ·exact .inr (.inr e.1)
def LG{D j:ZN}(e:Row aM 8 b D d a s)(f:Row aM 8 b j d a b2):s=b2:=by
 have o:=e.len;have p:=f.len;apply List.ext_getElem oM;intro i k l;obtain⟨q,r,t,m,g,-,n⟩:=e.lN (i:=i) oM;obtain⟨u,v,w,P,h,-,c⟩:=f.lN (i:=i) oM;rw[m]at P;cases P
 rw[n]at c;cases c
 rw[Qq k]at g;rw[Qq l]at h;rw[XJ g,XJ h]
section
def Cb(c:World)(D:ZN)(d:au)(e:List Value)(P:ah):Prop:=∃a b f,e=[jS P a b f]/\Row aM 8 c D a b P.aJ/\P.Ok/\P∈d.l
def qU{P b:Type}(c:P->b->Prop):List P->List b->Prop
 |[],[]=>True
 |a::d,e::f=>c a e/\qU c d f
 |_,_=>False
def qU.snoc{P a:Type}{b:P->a->Prop}{c:P}{d:a}(e:b c d):∀{f:List P} {g:List a},qU b f g->qU b (f++[c]) (g++[d])
 |[],[],_=>⟨e,trivial⟩
 |_::_,_::_,h=>⟨h.1,qU.snoc e h.2⟩
def qU.length{P a:Type}{d:P->a->Prop}:∀{b:List P} {c:List a},qU d b c->b.length=c.length
 |[],[],_=>rfl
 |_::_,_::_,e=>by simp[qU.length e.2]
def Cb.unique{D:ZN}(a:Cb b D E a2 l)(c:Cb b D E a2 K):l=K:=by
 obtain⟨f,g,h,rfl,d,-,-⟩:=a;obtain⟨i,j,k,P,e,-,-⟩:=c;simp only[aD,List.cons.injEq,Value.agg.injEq,Array.mk.injEq,Value.int.injEq,XX,and_true,true_and]at P;obtain⟨m,n,o,⟨rfl,rfl,rfl⟩,p,q,r,s,t,u⟩:=P;have:=LG d e
 cases l;cases K;simp_all
def qU.unique{a:World}{D:ZN}{b:au}:∀{P:List (List Value)} {c d:List ah},qU (Cb a D b) P c->qU (Cb a D b) P d->c=d
 |[],[],[],_,_=>rfl
 |_::_,_::_,_::_,e,f=>by rw[e.1.unique f.1,qU.unique e.2 f.2]
variable {w w9 w1 A B:World} {p bo:Nat} {F:ZN} {S:au} {q:Rj} {Pr:ah->Bool} {s:World×(ZN)} {pre:List (List Value)}
structure SJ (w9:World) (bo:Nat) (D:ZN) (S:au) (Pr:ah->Bool) (s:World×(ZN)) (pre:List (List Value)) (A:World):Prop where
 keep:aj (·=bo) w9 A
 own:aj (dS s.2) s.1 A
 out:∀b,s.2 b->b≠w9.heap.size/\b≠w9.heap.size+1/\b≠bo
 aE:∀b,s.2 b->b<A.heap.size
 dO:w9.heap.size+2<=A.heap.size
 oG:∃a n c G L,A.heap[bo]? =some (.cells #[.slice a n c] 50 (0,0))/\aU ia 55 G A a n c (L.filter Pr)/\(∀b,G b->w9.heap.size+2<=b/\¬s.2 b)/\qU (Cb w9 D S) pre L/\L.length<=S.l.length
def SJ.af(a:SJ w9 bo q.D S Pr s pre A)(P:ai A B):SJ w9 bo q.D S Pr s pre B:=by
 obtain⟨b,c,d,e,f,g,h,i,G,j,k,l,m,n⟩:=a;exact⟨b.af P,c.af P,d,λo p=>Qk (e o p) P.size,Xx f P.size,g,h,i,G,j,P.get k id,l.af P,m,n⟩
def SJ.eV(t:bo<w9.heap.size)(c:SJ w9 bo q.D S Pr s pre A)(f:pW (w9.heap.size+1) A B):SJ w9 bo q.D S Pr s pre B:=by
 obtain⟨g,h,d,i,u,j,k,l,G,m,n,o,e,p⟩:=c;obtain⟨b,v⟩:=f;exact⟨g.new b λP a=>.inr oM,h.trans b (λ_ _ c=>c) λP _ a r=>(d P r).2.1 a,d,λP a=>by have:=i P a;omega,oM,j,k,l,G,m,b.get n oM,o.keep b λP a w=>by have:=(e P a).1;omega,e,p⟩
def SJ.re(P:SJ w9 bo q.D S Pr s pre A):SJ w9 bo q.D S Pr (A,s.2) pre A:=⟨P.keep,aj.refl _,P.out,P.aE,P.dO,P.oG⟩
def Rl{R:ZU}(c1:bo<w9.heap.size)(hS:S.OK)(f:qT w9 p F S q)(v:∃d a3,w9.heap[a]? =some (.cells #[.map (some q.r)] d a3))(w:a≠bo)(x:¬F bo)(y:∀A B,R A->aj (nE w9) A B->R B)(hy:∀s pre n A,SJ w9 bo q.D S Pr s pre A->R A->sY [jS rC none 0 0] n->(pre.length<S.l.length/\∃d,Cb w9 q.D S n d)->jJ ZP (w9.heap.size+1) n A λP z=>P=true/\SJ w9 bo q.D S Pr s (pre++[n]) z/\R z)(o:SJ w9 bo q.D S Pr (w9,no) [] w1)(a7:R w1):
  YX 205 #[.func (.yield (w9.heap.size+1)) #[] #[],ZL a] w1 (Ok λa4 g=>R g/\∃s l,SJ w9 bo q.D S Pr s l g/\∃r,qU (Cb w9 q.D S) l r/\r.Perm S.l):=by
 obtain⟨e2,f2,v⟩:=v;have c2:=f.map.lt;have a8:qT w1 p F S q:=f.keep o.keep λP b d=>x (d▸b);have hD:∀P,q.D P->P<w9.heap.size/\P≠bo:=λP b=>⟨f.aE P (f.sub P (.inr (.inr (.inr b)))),λd=>x (d▸f.sub P (.inr (.inr (.inr b))))⟩
 have c3:=o.dO;have c4:q.r≠bo:=λd=>x (d▸f.sub _ (.inr (.inl rfl)));refine dB ⟨_,ae (o.keep.get v w) rfl,mapRange Rh a8.map λN b0 t s6=>?_⟩;obtain⟨j1,j2,j3,jd,j5,ja,jn,jc,G0,L0,j4,O,Q,j8⟩:=o;have b1:SJ w9 bo q.D S Pr (N,λP=>P=w1.heap.size\/P=q.r) [] N:=by
  refine⟨j1.af t,aj.refl _,λP b=>by rcases b with rfl|rfl<;>omega,λP b=>by rcases b with rfl|rfl<;>omega,oM,ja,jn,jc,G0,L0,t.get j4 id,O.af t,λP b=>⟨(Q P b).1,λd=>?_⟩,j8⟩;rcases d with rfl|rfl
  ·have:=O.aE _ b;omega
  ·have:=(Q _ b).1;omega
 refine⟨λT g=>∃pre left c k,T=left.length/\cV g w1.heap.size q.r EE q.l left/\fu (S_ w9 q.D) left c/\qU (Cb w9 q.D S) pre k/\(k++c.map (·.2)).Perm S.l/\SJ w9 bo q.D S Pr (g,λP=>P=w1.heap.size\/P=q.r) pre g/\R g,
  ⟨_,[],q.l,q.L,[],rfl,b0,f.rel,trivial,by simpa using f.VJ,b1,y _ _ a7 (ai.keep t)⟩,?_⟩
 rintro T _ c5 ⟨pre,left,c,k,rfl,hr,U,C,E,V,W⟩;refine m_ hr (λh0=>.inl ⟨rfl,?_⟩) (λc6 a4 l1 l2 H a6 a9 b2 u c7=>.inr ⟨_,_,rfl,?_⟩)
 ·subst h0
  obtain rfl:c=[]:=by
   have:=U.length;simp at this;exact QW this.symm
  exact Ok.mk ⟨W,_,pre,V,k,C,by simpa using E⟩
 subst a6;obtain⟨X,e,Y,rfl,⟨h,i,j,rfl,Z,a0⟩,b3⟩:=U.Xs;have a1:e∈S.l:=E.mem_iff.1 sM;have a2:((k++[e])++(X++Y).map (·.2)).Perm S.l:=by
  refine List.Perm.trans ?_ E;simp only[Q3,QY,XQ,List.singleton_append];exact List.Perm.append_left _ List.perm_middle.symm
 have b4:pre.length<S.l.length:=by
  have I:=a2.length_eq;have w:=C.length;simp at I;omega
 have b5:SJ w9 bo q.D S Pr (H,λP=>P=w1.heap.size\/P=q.r) pre H:=by
  obtain⟨I,w,h3,hd,h5,h,i,j,G,r,h4,h6,h7,h8⟩:=V;exact⟨I.new u λP b=>.inr oM,aj.refl _,h3,λP b=>by have:=hd P b;omega,oM,h,i,j,G,r,u.get h4 (λd=>(h3 _ (.inl rfl)).2.2 d.symm),h6.keep u λP b d=>(h7 P b).2 (.inl d),h7,h8⟩
 have b6:=y _ _ W (u.mono λP _ b=>(⟨oM,oM⟩:nE w9 P));refine qp b2 ⟨_,_,_,_,_,_,_,_,_,_,_,_,_,rfl,PA.mk λc8 J c9 b7=>aC (bf e h i j) b7 rfl λa5 K d0 b8=>ar (bf e h i j) b8 ⟨_,rfl,(hy _ pre _ a5 ((b5.af (J.new K λP b=>.inr oM)).re) ?_ ?_ ⟨b4,e,h,i,j,rfl,Z,a0,a1⟩).mono ?_⟩⟩
 ·exact y _ _ b6 (ai.keep (J.new K λP b=>.inr oM))
 ·exact λφ L=>L e.origin e.seq e.aB h i j e.aY e.agg e.field e.op e.arg e.key
 ·rintro _ z ⟨rfl,m,b9⟩
  have c0:ai H a5:=J.new K λP b=>.inr oM;refine al.ff rfl ⟨_,?_,pre++[_],l1++l2,X++Y,k++[e],rfl,(a9.af c0).keep m.own (λM=>M (.inl rfl)) (λM=>M (.inr rfl)),b3,C.snoc ⟨h,i,j,rfl,Z,a0,a1⟩,a2,m.re,b9⟩;simp
def Cc(d:cJ w p F S)(hl:S.l.length<=20000000){V W:Array Value}(hg:enters ZP a=true)(hp:∀c j v L D w1,ai w w1->Row aM 8 w1 D j v c.aJ->c.Ok->c∈S.l->YX a (V++ #[jS c j v L]++W) w1 (Ok λy z=>y= .bool (Pr c)/\ai w1 z)):
  YX 80 #[ZL p,.func (.func a) V W] w (Ok (pC ia 55 w (S.l.filter Pr))):=by
 have fy:=d;obtain⟨X,q,d⟩:=d;refine uN (PA.mk λk k3 s3 g3=>PA.mk λM k4 s4 g4=>?_);have b4:=k3.then k4;have c7:=d.af b4;refine⟨p,0,rfl,_,ae c7.at' rfl,PC.ok (φ:=λy z=>y= .func (.func 205) #[] #[ZL M.heap.size]/\(∃c c8,z.heap[M.heap.size]? =some (.cells #[.map (some q.r)] c c8))/\ai M z/\z.heap.size=M.heap.size+1)
  (dT (PA.mk λw5 C s5 g5=>Ok.mk ⟨rfl,⟨_,_,g5⟩,C,s5⟩)) ?_⟩
 rintro _ w9 ⟨rfl,c9,Y,s9⟩;have Z:=b4.then Y;have b5:=d.af Z;have hw:=d.aE;have b6:=aA d.at';have d0:=Y.get (k4.get g3 id) id;have d1:=Y.get g4 id;have b7:¬F k.heap.size:=λhf=>by have:=hw _ hf;omega
 have a0:k.heap.size<w9.heap.size:=oM
 refine⟨_,rfl,205,_,rfl,kR,World×(ZN),(w9,no),SJ w9 k.heap.size q.D S Pr,λ_ _ _=>False,
  λpre vs=>pre.length<S.l.length/\∃c,Cb w9 q.D S vs c,λg=>∃e,qU (Cb w9 q.D S) g e/\e.Perm S.l,?_,λs pre A B l h=>l.eV a0 h,λ_ _ _ _ d _=>d,?_,?_,?_,trivial⟩
 ·intro w6 k6 s6
  exact⟨ai.keep k6,ai.keep k6,λb P=>P.elim,λb P=>P.elim,oM,none,0,0,λ_=>False,[],k6.get d1 id,aU.nil _,λb P=>P.elim,trivial,Qj _⟩
 ·rintro s pre A l f8 t1 t2 t3 o tn r t4 t5 t6 t7 t8 t9 ⟨f9,c,j,v,L,he,hr,N,a1⟩
  simp only[aD,List.cons.injEq,Value.agg.injEq,Array.mk.injEq,Value.int.injEq,XX,and_true,true_and]at he;obtain⟨rfl,rfl,rfl,⟨rfl,rfl,rfl⟩,rfl,rfl,rfl,rfl,rfl,rfl⟩:=he;refine PA.mk λg0 d2 g1 d3=>aC (bf c o tn r) d3 rfl λd4 d5 g2 d6=>?_;have k2:ai A d4:=d2.new d5 λb P=>.inr oM;refine⟨ai.keep k2,λb8 h=>?_⟩;have E:=(l.af k2).eV a0 h;have b9:=h.1.get d6 oM;have g6:=h.2;have c0:∀b,q.D b->b<w9.heap.size/\b≠k.heap.size:=λb P=>⟨b5.aE b (d.sub b (.inr (.inr (.inr P)))),λc=>b7 (c▸d.sub b (.inr (.inr (.inr P))))⟩
  have c1:=hr.keep E.keep λb P=>(c0 b P).2;have d7:ai w b8:=Z.new E.keep λb P=>.inr oM;refine⟨_,ae (E.keep.get d0 oM) rfl,ar (bf c o tn r) b9 ⟨a,V,W,rfl,hg,PC.ok (hp c o tn r _ b8 d7 c1 N a1) ?_⟩⟩;rintro _ d8 ⟨rfl,a2⟩;refine⟨_,rfl,al.mk (λh=>λc2 d9=>?_) (λhf=>?_)⟩
  ·have e0:ai d8 c2:=d9.keep
   have O:=a2.then e0;have e1:=E.af O;obtain⟨H,Q,I,t,h5,R,ln,lc,G,e,m,i,f,n,h9⟩:=e1;have e2:=c1.af O;have b6:=n.length;refine⟨no,id,_,_,_,ae m rfl,ar (bf c o tn r) (O.get b9 id) (PC.ok (mr e2 λb P=>by have:=(c0 b P).1;omega) ?_)⟩;rintro _ g7 ⟨e3,cn,cc,G2,rfl,e4,T,a3⟩;have g8:=a3.size;refine⟨_,_,_,_,_,_,_,_,_,_,_,_,rfl,ai.keep a3,PA.mk λg9 a4 h0 e5=>⟨ai.keep a4,?_⟩⟩;have kk:=a3.then a4;refine eJ (c:=ia) (i.af kk) G_ e5 (D:=G2) (x:=c) ⟨e3,cn,cc,rfl,e4.af a4,N⟩ (λb P=>⟨by have:=T b P;omega,λc=>by have:=T b P;have:=i.aE _ (i.self _ c);omega⟩) ?_ ?_ λa' J h1 F' e6 a5 c3=>⟨_,_,_,rfl,?_⟩
   ·have:=List.length_filter_le Pr e;unfold aO;omega
   ·have:=List.length_filter_le Pr e;unfold maxLen;omega
   have U:=i.self;have a6:¬aH R=some k.heap.size:=λc=>by have:=(f _ (U _ c)).1;omega
   have e7:=a5.get (kk.get m id) a6;refine PS.mk e7 sM λe8 c4 h2 e9=>?_;have C:aj (λb=>aH R=some b\/b=k.heap.size) c2 e8:=((ai.keep kk).then (a5.mono λb _ P=>.inl P)).then (c4.mono λb _ P=>.inr P);have h3:=a5.size;refine⟨(ai.keep O).trans C (λ_ _ d=>d) λb _ P=>?_,?_⟩
   ·rcases P with P|rfl
    ·have:=(f _ (U _ P)).1;exact⟨oM,oM⟩
    ·exact⟨oM,oM⟩
   refine⟨H.new C ?_,Q.trans C (λ_ _ d=>d) λb _ P u=>?_,I,λb P=>by have:=t b P;omega,oM,a',ln+1,J,F',e++[c],?_,?_,?_,n.snoc ⟨o,tn,r,rfl,hr,N,a1⟩,?_⟩
   ·rintro b (P|P)
    ·exact .inr (by have:=(f _ (U _ P)).1;omega)
    ·exact .inl P
   ·rcases P with P|P
    ·exact(f _ (U _ P)).2 u
    ·exact(I b u).2.2 P
   ·rw[e9];rfl
   ·have a7:(e++[c]).filter Pr=e.filter Pr++[c]:=by rw[List.filter_append];simp[h]
    rw[a7];refine e6.keep c4 λb P c=>?_;rcases c3 b P with P|P|P
    ·have:=(f b P).1;omega
    ·have:=T b P;omega
    ·omega
   ·intro b P
    rcases c3 b P with P|P|P
    ·exact f b P
    ·have:=T b P;exact⟨oM,λu=>by have:=t b u;omega⟩
    ·exact⟨oM,λu=>by have:=t b u;omega⟩
   ·simp;omega
  ·refine⟨ai.keep a2,?_⟩
   obtain⟨H,Q,I,t,h5,R,ln,lc,G,e,m,i,f,n,h9⟩:=E.af a2;have b6:=n.length;refine⟨H,Q,I,t,h5,R,ln,lc,G,e++[c],m,?_,f,n.snoc ⟨o,tn,r,rfl,hr,N,a1⟩,by simp;omega⟩;have a7:(e++[c]).filter Pr=e.filter Pr:=by rw[List.filter_append];simp[hf]
   rw[a7];exact i
 ·intro f0 Rx hR _ h4 hy w6 f1 f2
  refine Calls.mono (Rl (R:=f0) a0 X b5 c9 oM b7 hR (λs pre vs A l f3 h hN=>(hy s pre vs A l f3 h hN).mono ?_) f1 f2) ?_
  ·rintro b A' (d|⟨-,x,d,-⟩)
   ·exact d
   ·exact d.elim
  ·rintro _ A' ⟨y,rfl,f4,s,g,a8,hT⟩
   exact⟨⟨y,rfl⟩,.inl ⟨f4,s,g,a8,hT⟩⟩
 ·rintro s g A l ⟨L',f5,f6⟩ hm
  obtain⟨H,Q,I,t,h5,j,v,L,G,e,m,i,f,n,h9⟩:=l;obtain rfl:=qU.unique n f5;have a9:(e.filter Pr).Perm (S.l.filter Pr):=f6.filter _;refine⟨_,_,_,ae m rfl,PC.ok (Jp i (by rw[a9.length_eq];exact Xx (List.length_filter_le ..) hl)) ?_⟩;rintro _ h6 ⟨rfl,l',K,b0,b1,b2⟩;have b3:=i.self;have a6:¬aH j=some k.heap.size:=λc=>by have:=(f _ (b3 _ c)).1;omega
  have f7:¬aH j=some w9.heap.size:=λc=>by have:=(f _ (b3 _ c)).1;omega
  refine⟨rfl,_,_,_,ae (b2.get m a6) rfl,b2.get hm f7,λi0 ⟨c5,i1⟩=>Ok.mk ?_⟩;have c6:=List.filter_sublist (p:=Pr) (l:=S.l);obtain rfl:l'=S.l.filter Pr:=LH b0 (X.Pa.sublist c6) (K.trans a9) (((K.trans a9).map aX).nodup_iff.2 (X.ids.sublist (c6.map _)));refine⟨j,v,L,G,rfl,b1.keep c5 λb P c=>by have:=(f b P).1;omega,?_,λb P=>by have:=(f b P).1;omega⟩;exact((Z.new H λb P=>.inr oM).new b2 λb P=>.inr (by have:=(f b (b3 b P)).1;omega)).new c5 λb P=>.inr oM
end
end Go.Proofs.YtblabbpipmodgaaGreatDoor
namespace Go.aw
variable{s:List Int}{a:Nat}{f:ZN}{d:YQ}{j:Type}{g:TypeId}{b:World}
def Row.sX{D:ZN}(P:Row aM 8 b D d a s):Ints b d a s:=by
 have n:=P.len;refine⟨n,P.dO,λh o=>?_,λi h c=>?_⟩
 ·obtain⟨i,c,rfl⟩:=List.getElem_of_mem o
  obtain⟨j,k,p,g,e,l,m⟩:=P.lN (i:=i) oM;rw[Qq c]at e;rw[XJ e];exact l
 ·have r:=(Qv.1 c).1
  obtain⟨j,k,t,g,q,u,v,w⟩:=P.el i h c;obtain⟨x,y,p,f,e,l,m⟩:=P.lN (i:=i) oM;rw[c]at e;rw[g]at f;cases f
  exact⟨j,k,g,q,by rw[m,XJ e]⟩
def Own.take{c:World}{d:TypeId}{k:Nat}{e:YQ}{a f m:Nat}{cs:List Value}(g:Own c d k e a f cs)(h:m<=a):Own c d k e m f (cs.take (m*k)):=by
 have i:=g.length;have j:m*k<=a*k:=Q0 _ h;refine⟨⟨by rw[Qy,i];omega,?_⟩⟩;rcases g.row.2 with⟨P,rfl⟩|⟨l,n,b,P,o,p,t,q,r,s⟩
 ·obtain rfl:m=0:=oM
  exact .inl ⟨P,rfl⟩
 ·simp only[XX]at P
  refine .inr ⟨l,n,b,by rw[P.1,P.2.2],o,p,oM,q,r,?_⟩;rw[<-s,List.take_take,X2 j]
def aU.take{c:jU j}{e P m:Nat}{h:List j}(a:aU c g f b d e P h)(i:m<=e):aU c g f b d m P (h.take m):=by
 obtain⟨cs,D,k,l,n⟩:=a.body;exact⟨⟨_,D,k.take i,l.take m,n⟩,a.self,a.aE⟩
end Go.aw
namespace Go.Proofs.YtblabbpipmodgaaGreatDoor
section
open Go.aw
variable{e:Int}{s:List Int}{a c:Nat}{d:YQ}
section
variable {w w' w1:World} {p:Nat} {F T:ZN} {S:au} {q:Rj}
def qW(d:cJ w p F S)(P:S.l.length<=20000000):YX 41 #[ZL p] w (Ok (pC ia 55 w S.l)):=by
 refine wi (PC.ok (Cc d P (Pr:=λ_=>true) kR λh a b c D w1 i j k l=>?_) ?_)
 ·exact tu (PA.mk λm e n o=>Ok.mk ⟨rfl,e⟩)
 ·rintro _ q ⟨a,b,c,G,rfl,P,f,g⟩
  rw[List.filter_eq_self.2 sM]at P;exact⟨_,_,_,rfl,Ok.mk ⟨a,b,c,G,rfl,P,f,g⟩⟩
def xV(q:cJ w p F S)(r:S.l.length<=20000000){D:ZN}(t:Row aM 8 w D d a s):
  YX 50 #[ZL p,.slice d a c,ZH e] w (Ok (pC ia 55 w (S.missing s e))):=by
 refine qd (PA.mk λw1 h E u=>PC.ok (Cc (q.af h) r (Pr:=λP=>decide (max 0 (fC s P.origin)<P.seq)) kR λP k f l H I v J K L=>?_) ?_)
 ·refine nU (PA.mk λm n M g=>λx y=>⟨no,id,?_⟩)
  have i:ai m x:=y.keep;have g:=i.get g id;have o:=v.then (n.then i);refine⟨_,ae g rfl,_,_,_,ae (o.get u id) rfl,_,ae g rfl,PC.ok (nB (t.sX.af (h.then o))) ?_⟩;rintro _ _ ⟨rfl,rfl⟩;refine⟨_,rfl,aj.refl _,Ok.mk ⟨?_,n.then i⟩⟩
  congr 1
  rw[decide_eq_decide];split<;>omega
 ·rintro _ m ⟨k,f,l,G,rfl,b,z,A⟩
  have N:=b.len dC;have O:=b.lM;have j:(if e>0 then e else 0)=max 0 e:=by split<;>omega
  refine⟨_,_,_,rfl,?_⟩;refine⟨by rw[j];split<;>omega,by rw[j];split<;>omega,Ok.mk ⟨k,_,l,G,rfl,?_,h.then z,λB C=>by have:=A B C;omega⟩⟩;rw[j];have:=b.take (m:=Int.toNat (if max 0 e<(f:Int)then max 0 e else(f:Int))) (by split<;>omega);unfold au.missing;have P:(List.filter (λP=>decide (max 0 (fC s P.origin)<P.seq)) S.l).take (Int.toNat (if max 0 e<(f:Int)then max 0 e else(f:Int)))=(List.filter (λP=>decide (max 0 (fC s P.origin)<P.seq)) S.l).take (max 0 e).toNat:=by
   split
   ·rfl
   ·rw[Qz oM,Qz oM]
  rw[<-P];exact this
def xY{a:Type}(p:a->Bool):∀P:List a,P.find? p=(P.filter p).head?
 |[]=>rfl
 |x::P=>by
  rw[List.find?_cons,List.filter_cons]
  cases p x
  ·exact xY p P
  ·rfl
def Ox(C:cJ w p F S)(q:S.l.length<=20000000){key:Int}:
  YX 83 #[ZL p,ZH key] w (Ok λE w'=>∃r s H G,E= .tuple #[jS ((S.keyed key).getD rC) r s H,.bool (S.keyed key).isSome]/\Row aM 8 w' G r s ((S.keyed key).getD rC).aJ/\(∀P,G P->w.heap.size<=P/\P<w'.heap.size)/\ai w w'):=by
 refine tv (PA.mk λw1 m Z t=>PA.mk λw2 j s2 I=>PC.ok (Cc ((C.af m).af j) q (Pr:=λa=>key !=0&&a.key==key) kR λa J K L D' M N hr u hm=>?_) ?_)
 ·refine qg (PA.mk λv d x f=>?_)
  have y:=(j.then N).then d;refine⟨_,ae (y.get t id) rfl,al.dV (λO=>⟨_,ae f rfl,_,ae (y.get t id) rfl,Ok.mk ⟨?_,d⟩⟩) (λu=>Ok.mk ⟨?_,d⟩)⟩
  ·rw[show(key !=0)=true by simpa using O];rfl
  ·rw[u];rfl
 ·rintro _ M ⟨J,K,L,G,rfl,b,n,z⟩
  have k:=b.len dC;have A:=n.get I id;have B:S.keyed key=(S.l.filter λa=>key !=0&&a.key==key).head? :=xY _ _;refine⟨_,_,_,rfl,al.eD (λQ=>?_) (λQ=>?_)⟩
  ·have:(S.l.filter λa=>key !=0&&a.key==key)=[]:=QW oM
   rw[B,this];refine aC (bf rC none 0 0) A rfl λv d x f=>ar (bf rC none 0 0) f (Ok.mk ⟨none,0,0,λ_=>False,rfl,Row.nil _ _,λP c=>c.elim,((m.then j).then n).new d λP c=>.inr oM⟩)
  ·cases l:S.l.filter λa=>key !=0&&a.key==key with
   |nil=>rw[l]at k;simp at k;omega
   |cons e R=>
    rw[l]at b k;have a0:(e::R).length<=20000000:=by rw[<-l];exact Xx (List.length_filter_le ..) q
    have T:=b.row (bytes:=96) dC ba;obtain⟨P,U,es,V,c,a1,W,g,h,i,rfl,X,a3⟩:=T.el 0 e rfl
    with_reducible (conv=>whnf)
    rw[B,l];refine⟨P,U,V,oM,by simp at k;omega,?_⟩;refine bB (es:=aD e g h i) (k:=10) (bf e g h i) rfl (λY o=>?_) (aC (bf e g h i) A rfl λv d x f=>ar (bf e g h i) f (Ok.mk ⟨g,h,i,G,rfl,?_,?_,?_⟩))
    ·have:=W Y o
     simpa using this
    ·exact X.keep d λP c a=>by have:=z P c;omega
    ·intro P c;have:=z P c;have:=b.aE P c;omega
    ·exact((m.then j).then n).new d λP c=>.inr oM
end
end
section
open Go.aw
variable{e q:Int}{s:List Int}{a c:Nat}{d:YQ}{j:Type}
def TR(b:a+c<4611686018427387904):ZG .i64 (jH .u64 (ZG .u64 (ZG .i64 ((a:Int)+(c:Int)))) 1)=(((a+c)/2:Nat):Int):=by
 rw[wrap_i64 (x:=(a:Int)+c) bb];have P:ZG .u64 ((a:Int)+(c:Int))=((a+c:Nat):Int):=by
  unfold ZG;simp[IntKind.signed,IntKind.bits];omega
 rw[P,show(1:Int)=((1:Nat):Int)from rfl,MV dC,wrap_i64 bb]
def posOf{P:Type}(a:P->Bool)(b:List P):Nat:=(b.takeWhile a).length
def zQ(P:j->Bool)(a:List j):posOf P a<=a.length:=(List.takeWhile_sublist P).length_le
def zR{d:Type}{p:d->Bool}:∀{l:List d} {i:Nat},i<=l.length->(∀P x,P<i->l[P]? =some x->p x=true)->(∀x,l[i]? =some x->p x=false)->posOf p l=i
 |[],i,a,_,_=>by simp at a;subst a;rfl
 |x::l,0,_,_,f=>by
  have:=f x rfl;simp[posOf,this]
 |x::l,i+1,a,e,g=>by
  have h:=e 0 x oM rfl;have:=zR (p:=p) (l:=l) (i:=i) (by simpa using a) (λP b j c=>e (P+1) b oM (by simpa using c)) (λb c=>g b (by simpa using c));unfold posOf at this⊢;rw[List.takeWhile_cons,h];simp[this]
section
variable {w w':World} {D:ZN}
def TS{w:World}:YX 312 #[ZH e] w (Ok λP w'=>P= .bool false/\w=w'):=sR (Ok.mk ⟨sM,rfl⟩)
def OY{w:World}:YX 311 #[ZH e,ZH q] w (Ok λP w'=>P= .bool (decide (e<q))/\w=w'):=by
 refine zS (PC.ok isNaN ?_);rintro _ _ ⟨rfl,rfl⟩;exact⟨_,rfl,al.ff rfl (Ok.mk ⟨rfl,rfl⟩)⟩
abbrev vT(P:List Int):Prop:=P.Pairwise (·<·)
def sS(t:Row aM 8 w D d a s)(F:vT s):
  YX 279 #[.slice d a c,ZH e] w (Ok λH w'=>H= .tuple #[ZH (posOf (λP=>decide (P<e)) s:Nat),.bool (decide (e∈s))]/\w=w'):=by
 have N:=t.len;have I:=t.dO;unfold aO at I;have z:∀{i k:Nat} {P m:Int},s[i]? =some P->s[k]? =some m->i<=k->P<=m:=λ{i k P m} g n O=>by
  obtain⟨o,rfl⟩:=Qv.1 g;obtain⟨p,rfl⟩:=Qv.1 n;rcases Nat.lt_or_ge i k with h|h
  ·exact Int.le_of_lt (List.pairwise_iff_getElem.1 F i k o p h)
  ·obtain rfl:i=k:=oM
   exact Int.le_refl _
 refine iW ⟨λE i k w'=>∃b j:Nat,i=b/\k=j/\E=j-b/\b<=j/\j<=a/\(∀f P,f<b->s[f]? =some P->P<e)/\(∀f P,j<=f->s[f]? =some P->e<=P)/\w=w',
  ⟨_,0,a,rfl,rfl,rfl,oM,oM,λf P l=>oM,λf P l g=>by have:=(Qv.1 g).1;omega,rfl⟩,?_⟩
 rintro E _ _ _ _ ⟨b,j,rfl,rfl,rfl,Q,J,o,p,rfl⟩;refine al.dec (λR=>?_) (λS=>?_)
 ·rw[TR oM]
  obtain⟨u,v,P,x,g,-,y⟩:=t.lN (i:=(b+j)/2) oM;refine⟨u,v,x,oM,oM,P,by rw[Qx];exact y,PC.ok OY ?_⟩;rintro _ _ ⟨rfl,rfl⟩;refine⟨_,rfl,al.dec (λK=>⟨_,?_,(b+j)/2+1,j,an oM,rfl,rfl,oM,J,λf m l n=>?_,p,rfl⟩) (λK=>⟨_,?_,b,(b+j)/2,rfl,rfl,rfl,oM,oM,o,λf m l n=>?_,rfl⟩)⟩
  ·omega
  ·have:=z n g oM;omega
  ·omega
  ·have:=z g n l;omega
 ·obtain rfl:b=j:=oM
  have L:posOf (λP=>decide (P<e)) s=b:=zR oM (λf P l g=>by simpa using o f P l g) (λP g=>by have:=p b P (Q4 _) g;simp;omega);rw[L];have A:e∈s↔s[b]? =some e:=by
   constructor
   ·intro q
    obtain⟨f,l,rfl⟩:=List.getElem_of_mem q;have r:s[f]? =some s[f]:=Qq l;rcases Nat.lt_or_ge f b with h|h
    ·have:=o f _ h r;omega
    ·have B:b<s.length:=oM
     have T:=p b _ (Q4 _) (Qq B);have U:=z (Qq B) r h;rw[Qq B];congr 1;omega
   ·exact QZ
  refine al.dec (λM=>?_) (λM=>?_)
  ·obtain⟨u,v,P,x,g,-,y⟩:=t.lN (i:=b) oM
   refine⟨u,v,x,oM,oM,P,y,al.eD (λC=>Ok.mk ⟨?_,rfl⟩) (λC=>⟨u,v,x,oM,oM,P,y,PC.ok TS ?_⟩)⟩
   ·rw[Zy (A.2 (C▸g))]
   ·rintro _ _ ⟨rfl,rfl⟩
    refine⟨_,rfl,al.ff rfl (Ok.mk ⟨?_,rfl⟩)⟩;rw[Xv];intro q;have:=A.1 q;rw[g]at this;exact C (XJ this)
  ·refine Ok.mk ⟨?_,rfl⟩
   rw[Xv];intro q;have:=(Qv.1 (A.1 q)).1;omega
end
def Hl{a:Int}:∀{P:List Int},vT P->a∉P->pN a P=P.take (posOf (λy=>decide (y<a)) P)++a::P.drop (posOf (λy=>decide (y<a)) P)
 |[],_,_=>rfl
 |y::P,d,b=>by
  obtain⟨f,e⟩:=List.pairwise_cons.1 d;simp only[Q2,not_or]at b;unfold pN posOf
  by_cases c:a<y
  ·rw[Zx c,List.takeWhile_cons,Xv oM];rfl
  ·rw[Zq c,Zq b.1,List.takeWhile_cons,Zy (show y<a by omega),Hl e b.2];rfl
def ud{b:Int}:∀{P:List Int},b∈P->vT P->pN b P=P
 |y::P,a,c=>by
  obtain⟨d,e⟩:=List.pairwise_cons.1 c;unfold pN;rcases Q2.1 a with rfl|a
  ·rw[Zq oM,Zx rfl]
  ·have:=d b a
   rw[Zq oM,Zq oM,ud a e]
def Hm{b P:Int}:∀{a:List Int},P∈pN b a↔P=b\/P∈a
 |[]=>by simp[pN]
 |y::a=>by
  unfold pN;split
  ·simp
  ·split
   ·rename_i h;subst h;simp
   ·simp only[Q2,Hm]
    constructor
    ·rintro(h|h|h)<;>simp[h]
    ·rintro(h|h|h)<;>simp[h]
def DB{e:Int}:∀{a:List Int},vT a->vT (pN e a)
 |[],_=>List.pairwise_singleton ..
 |y::a,b=>by
  obtain⟨d,f⟩:=List.pairwise_cons.1 b;unfold pN;split
  ·rename_i g
   exact List.pairwise_cons.2 ⟨λc P=>by
    rcases Q2.1 P with rfl|P
    ·exact g
    ·have:=d c P;omega,b⟩
  ·split
   ·exact b
   ·refine List.pairwise_cons.2 ⟨λc P=>?_,DB f⟩
    rcases Hm.1 P with rfl|P
    ·omega
    ·exact d c P
def LV{a:Int}:∀{P:List Int},vT P->a∈P->(P.filter λy=>y !=a)=P.eraseIdx (posOf (λy=>decide (y<a)) P)/\posOf (λy=>decide (y<a)) P<P.length
 |y::P,f,c=>by
  obtain⟨e,g⟩:=List.pairwise_cons.1 f;rcases Q2.1 c with rfl|c
  ·have d:posOf (λy=>decide (y<a)) (a::P)=0:=by simp[posOf]
   rw[d];refine⟨?_,sM⟩;rw[List.filter_cons_of_neg sM,List.eraseIdx_zero,List.tail_cons];refine List.filter_eq_self.2 λb h=>?_;have:=e b h;simp;omega
  ·have i:=e a c
   obtain⟨j,k⟩:=LV g c;have d:posOf (λb=>decide (b<a)) (y::P)=posOf (λb=>decide (b<a)) P+1:=by simp[posOf,i]
   rw[d,List.filter_cons_of_pos bc,List.eraseIdx_cons_succ,j];exact⟨rfl,by simp;exact k⟩
def Hn(P:e∉s):(s.filter λa=>a !=e)=s:=List.filter_eq_self.2 λc b=>by
 simp only[bne_iff_ne,ne_eq];rintro rfl;exact P b
end
end Go.Proofs.YtblabbpipmodgaaGreatDoor
namespace Go.aw
open Go
variable{z:ZT}{F a c i o:Nat}{f:ZN}{S Y:Operand}{d r:YQ}{j:Type}{g n:TypeId}{m t:ZR}{b:World}{x:ZU}
def z_{l:Program}{i bytes:Nat}{f:j->List Value}{o:j->Prop}{hl hone}(r:jq l g n i bytes)(H:0<bytes){k:List j}{D:ZN}(h:Row (flat i f o hl hone) bytes b D d a k)(s:∀P,D P->P<b.heap.size)(u:∀v w,pC (flat i f o hl hone) n b k v w->z (.returned v) w):
  aG l (do eqGuard .eql g S Y (.slice d a c) (.slice none 0 0);binOp .eql g (.slice d a c) (.slice none 0 0)) b (λI p=>∃(x:Bool),I= .bool x/\al x (z (.returned (.slice none 0 0)) p) (PA p (.cells #[] n) λJ=>
   aG l (Builtin.append_ #[g,g] g #[.slice (ZM p.heap.size) 0 0,.slice d a c]) J (λK L=>∃(y:YQ) (A:Nat) (B:Nat),K= .slice y A B/\z (.returned (.slice y A B)) L) m)) t:=by
 have C:=h.len;have e:=h.dO;refine j_ r.under ⟨_,rfl,al.mk (λq=>?_) (λq=>PA.mk λM E a0 N=>?_)⟩
 ·have:k=[]:=by
   cases d with
   |none=>
    cases k with
    |nil=>rfl
    |cons S a1=>obtain⟨P,O,es,Q,_⟩:=h.el 0 S rfl;cases Q
   |some R=>cases q
  subst this;exact u _ _ ⟨none,0,0,λ_=>False,rfl,aU.nil b,aj.refl _,λ_ h=>h.elim⟩
 ·cases d with
  |none=>cases q
  |some R=>
   have T:aU (flat i f o hl hone) n (·=b.heap.size) M (ZM b.heap.size) 0 0 []:=
    ⟨⟨[],λ_=>False,Own.zO (cur:= #[]) N sM (Qj _),rfl,λ_ h=>h.elim⟩,λP e=>by simpa[aH]using e.symm,λP e=>oM⟩
   have U:a<=maxLen:=by
    unfold aO at e;unfold maxLen;have:a*1<=a*bytes:=Nat.mul_le_mul_left _ H;omega
   refine kK T r (D:=D) (h.af E) (λP e=>⟨by have:=s P e;omega,by have:=s P e;simp only[aH];intro n;cases n;omega⟩) (by rw[ZQ,Xz,<-C];exact e) (by rw[ZQ,Xz,<-C];exact U) λF V w2 F' W X _ Z=>?_;refine⟨_,_,_,rfl,u _ _ ⟨F,_,V,λP=>aH F=some P,rfl,by have h:=W.alone;rw[List.nil_append]at h;exact h,E.new X λP e=>.inr ?_,λP e=>?_⟩⟩
   ·simp only[aH,Q1]at e;omega
   ·rcases Z P e with h|h<;>omega
structure Bx (α:Type) where
 x:α
 a:YQ
 n:Nat
 c:Nat
structure eZ (α β:Type) where
 k:Nat
 ci:jU β
 ib:Nat
 inner:α->List β
 hd:α->YQ->Nat->Nat->List Value
 ok:α->Prop
 hl:∀x a n c,(hd x a n c).length=k
 h1:∀x a n c,∀u∈hd x a n c,u.oneCell'=true
 o:Nat
 ho:o<k
 fy:∀x a n c a' n' c',(hd x a n c).set o (.slice a' n' c')=hd x a' n' c'
section
variable {α β:Type} (N:eZ α β)
def eZ.ke:jU (Bx α):=flat N.k (λP=>N.hd P.x P.a P.n P.c) (λ_=>True) (λP=>N.hl ..) (λP=>N.h1 P.x P.a P.n P.c)
def eZ.M_:jU α where
 k:=N.k
 rep:=λi D d cs=>∃P a b,cs=N.hd d P a b/\Row N.ci N.ib i D P a (N.inner d)/\N.ok d
 keep:=λ⟨P,a,b,c,e,f⟩ j g=>⟨P,a,b,c,e.keep j g,f⟩
 mono:=λ⟨P,a,b,c,e,f⟩ g=>⟨P,a,b,c,e.mono g,f⟩
 len:=λ⟨P,a,b,c,_,_⟩=>by rw[c];exact N.hl ..
 one:=λ⟨P,a,b,c,_,_⟩ k h=>by rw[c]at h;exact N.h1 _ _ _ _ k h
variable {N} {w w':World} {D:ZN}
def eZ.In(N:eZ α β)(w:World)(D:ZN)(P:Bx α):Prop:=Row N.ci N.ib w D P.a P.n (N.inner P.x)/\N.ok P.x
def eZ.In.keep{S:ZN}{P:Bx α}(a:N.In w D P)(b:aj S w w')(c:∀P,D P->¬S P):N.In w' D P:=⟨a.1.keep b c,a.2⟩
def eZ.In.mono{P:Bx α}(a:N.In w D P)(b:∀P,D P->f P):N.In w f P:=⟨a.1.mono b,a.2⟩
def eZ.bW:∀{a:List α} {cs:List Value},bR N.M_ w D a cs->∃P:List (Bx α),P.map (·.x)=a/\bR N.ke w D P cs/\∀b∈P,N.In w D b
 |[],_,d=>⟨[],rfl,d,sM⟩
 |x::a,_,⟨e,f,g,⟨h,i,j,k,l,m⟩,n⟩=>by
  obtain⟨P,o,p,q⟩:=eZ.bW n;refine⟨⟨x,h,i,j⟩::P,by simp[o],⟨e,f,g,⟨k,trivial⟩,p⟩,λb c=>?_⟩;rcases Q2.1 c with rfl|c
  ·exact⟨l,m⟩
  ·exact q b c
def eZ.QF{c:ZN}:∀{P:List (Bx α)} {cs:List Value},bR N.ke w c P cs->(∀b∈P,N.In w D b)->bR N.M_ w D (P.map (·.x)) cs
 |[],_,d,_=>d
 |b::P,_,⟨e,f,g,⟨h,_⟩,i⟩,a=>⟨e,f,g,⟨b.a,b.n,b.c,h,a b (QV ..)⟩,eZ.QF i λj k=>a j (QJ _ k)⟩
def eZ.boxes{bytes:Nat}{c:List α}(e:Row N.M_ bytes w D d a c):∃P:List (Bx α),P.map (·.x)=c/\Row N.ke bytes w D d a P/\∀i∈P,N.In w D i:=by
 obtain⟨cs,n,o⟩:=e.bW;obtain⟨P,j,p,q⟩:=eZ.bW n;have f:P.length=c.length:=by rw[<-j];simp
 have r:0<N.M_.k:=Nat.lt_of_le_of_lt (Qj _) N.ho;refine⟨P,j,⟨by rw[f];exact e.len,e.dO,λB i g=>?_⟩,q⟩;have s:c≠[]:=by rintro rfl;rw[ZQ]at f;rw[QW f]at g;simp at g
 obtain⟨t,h,u,v,x,y⟩:=o s r;obtain⟨k,z,l⟩:=p.at g;refine⟨t,h,k,u,v,x,λm A=>?_,l⟩;have C:=N.ke.len l;have b:=z m A;rw[Qq (show m<k.length by omega)]at b⊢;rw[Nat.add_assoc];exact y _ _ b
def eZ.unbox{e:List (Bx α)}(j:aU N.ke g f w d a c e)(b:∀P∈e,N.In w D P)(h:∀P,D P->P<w.heap.size/\aH d≠some P):aU N.M_ g (λP=>aH d=some P\/D P) w d a c (e.map (·.x)):=by
 obtain⟨cs,l,i,k,m⟩:=j.body;refine⟨⟨cs,D,i,eZ.QF k b,λP b=>⟨.inr b,(h P b).2⟩⟩,λP b=>.inl b,λP b=>?_⟩;rcases b with b|b
 ·exact i.lt b
 ·exact(h P b).1
def eZ.set{e:List (Bx α)}(l:aU N.ke g f w d a c e){P:Bx α}(m:e[i]? =some P){k b:Nat}(n:d=some ⟨k,b,none⟩)(h:∀j,aU N.ke g f j d a c (e.set i ⟨P.x,r,o,F⟩)->aj (λP=>aH d=some P) w j->j.heap.size=w.heap.size->x j):PS w ⟨k,b+i*N.k+N.o,none⟩ (.slice r o F) x:=
 aU.set (x':=⟨P.x,r,o,F⟩) l m N.ho (N.fy ..).symm n h
end
end Go.aw
namespace Go.Proofs.YtblabbpipmodgaaGreatDoor
open Go.aw
def jW.Ok(P:jW):Prop:=aN P.bU/\aN P.pF/\aN P.lb/\aN P.least
def nz(P:jW):List Value:=[ZH P.bU,ZH P.pF,ZH P.lb,ZH P.least]
def fU:jU jW:=flat 4 nz jW.Ok (λ_=>rfl) (λa b P=>by simp[nz]at P;rcases P with rfl|rfl|rfl|rfl<;>rfl)
def dL(P:bu)(a:YQ)(b c:Nat):List Value:=[ZH P.kind,ZH P.dW,.bool P.floor,.slice a b c]
def oU:jU bu where
 k:=4
 rep:=λi D d cs=>∃P a b,cs=dL d P a b/\Row fU 32 i D P a d.bz/\aN d.kind/\aN d.dW
 keep:=λ⟨P,a,b,c,e,f⟩ j g=>⟨P,a,b,c,e.keep j g,f⟩
 mono:=λ⟨P,a,b,c,e,f⟩ g=>⟨P,a,b,c,e.mono g,f⟩
 len:=λ⟨P,a,b,c,_,_⟩=>by rw[c];rfl
 one:=λ⟨P,a,b,c,_,_⟩ k h=>by
  rw[c]at h;simp[dL]at h;rcases h with rfl|rfl|rfl|rfl<;>rfl
def ks:jU (List bu) where
 k:=1
 rep:=λg D h cs=>∃P a b,cs=[.slice P a b]/\Row oU 48 g D P a h
 keep:=λ⟨P,a,b,c,d⟩ i e=>⟨P,a,b,c,d.keep i e⟩
 mono:=λ⟨P,a,b,c,d⟩ e=>⟨P,a,b,c,d.mono e⟩
 len:=λ⟨P,a,b,c,_⟩=>by rw[c];rfl
 one:=λ⟨P,a,b,c,_⟩ j f=>by rw[c]at f;simp at f;subst f;rfl
def jo.Ok(P:jo):Prop:=aN P.aY/\aN P.field/\aN P.group/\aN P.EN/\aN P.make
def ny(P:jo):List Value:=[ZH P.aY,ZH P.field,ZH P.group,ZH P.EN,ZH P.make]
def uY:jU jo:=flat 5 ny jo.Ok (λ_=>rfl) (λa b P=>by simp[ny]at P;rcases P with rfl|rfl|rfl|rfl|rfl<;>rfl)
def KI:jq ZP 121 125 4 32:=⟨kR,kR,dC⟩
def PD:jq ZP 126 123 4 48:=⟨kR,kR,dC⟩
def LR:jq ZP 22 130 1 24:=⟨kR,kR,dC⟩
def Kx:jq ZP 23 128 5 40:=⟨kR,kR,dC⟩
def JJ(P:jW):iI ZP 125 (nz P)=true:=kR
def fl(P:bu)(a:YQ)(b c:Nat):iI ZP 123 (dL P a b c)=true:=kR
def IT(P:bu)(a:YQ)(b c:Nat):RG (fD ZP 123) (.agg (dL P a b c).toArray)=true:=kR
def pH(P:jo):iI ZP 128 (ny P)=true:=kR
def VH:bu:=⟨0,0,false,[]⟩
structure bj (w:World) (D:ZN) (d:aS) (ta:YQ) (tn:Nat) (pa:YQ) (pn:Nat):Prop where
 aY:Row ks 24 w D ta tn d.types
 zJ:Row uY 40 w D pa pn d.projs
variable{y:FuncId}{O e q:Int}{g0:List jW}{a c:Nat}{b6:bu}
section
variable {w w':World} {D D' S:ZN} {d:aS} {ta pa:YQ} {tn tc pn pc:Nat}
def bj.keep(P:bj w D d ta tn pa pn)(a:aj S w w')(b:∀c,D c->¬S c):bj w' D d ta tn pa pn:=⟨P.aY.keep a b,P.zJ.keep a b⟩
def bj.af(P:bj w D d ta tn pa pn)(a:ai w w'):bj w' D d ta tn pa pn:=P.keep a λ_ _ P=>P
def bj.mono(P:bj w D d ta tn pa pn)(a:∀b,D b->D' b):bj w D' d ta tn pa pn:=⟨P.aY.mono a,P.zJ.mono a⟩
structure eX (w:World):Prop where
 kinds:∀i,i<6->w.cell? ⟨1,i,none⟩=some (ZH (qA i))
 VI:∀i,i<5->w.cell? ⟨0,i,none⟩=some (ZH (([0,2,14,6,6]:List Int).getD i 0))
 lt:1<w.heap.size/\0<w.heap.size
def eX.af(P:eX w)(b:ai w w'):eX w':=
 ⟨λa c=>(b.cell (a:=⟨1,a,none⟩) P.lt.1 id).trans (P.kinds a c),λa c=>(b.cell (a:=⟨0,a,none⟩) P.lt.2 id).trans (P.VI a c),
  Qk P.lt.1 b.size,Qk P.lt.2 b.size⟩
def bI:within e q O=true↔q<=e/\e<=O:=by simp[within]
def cy:YX 125 #[ZH e,ZH q,ZH O] w (Ok λP w'=>P= .bool (within e q O)/\w=w'):=by
 refine yD (al.dec (λa=>Ok.mk ⟨?_,rfl⟩) (λa=>Ok.mk ⟨?_,rfl⟩))
 ·simp[within];omega
 ·simp[within];omega
def sO{d:YQ}(h:Row fU 32 w D d a g0)(f:∀P,D P->P<w.heap.size):
  YX 130 #[.slice d a c] w (Ok (pC fU 125 w g0)):=by
 have v:=h.len;have b:=h.dO;refine iq (j_ KI.under ⟨_,rfl,al.mk (λe=>?_) (λe=>PA.mk λj g x k=>?_)⟩)
 ·have:g0=[]:=by
   cases d with
   |none=>
    cases g0 with
    |nil=>rfl
    |cons l y=>obtain⟨P,m,z,n,_⟩:=h.el 0 l rfl;cases n
   |some o=>cases e
  subst this;exact Ok.mk ⟨none,0,0,λ_=>False,rfl,aU.nil w,aj.refl _,λ_ h=>h.elim⟩
 ·cases d with
  |none=>cases e
  |some o=>
   have p:aU fU 125 (·=w.heap.size) j (ZM w.heap.size) 0 0 []:=
    ⟨⟨[],λ_=>False,Own.zO (cur:= #[]) k rfl (Qj _),rfl,λ_ h=>h.elim⟩,λP b=>by simpa[aH]using b.symm,λP b=>oM⟩
   refine kK p KI (D:=D) (h.af g) (λP b=>⟨by have:=f P b;omega,by have:=f P b;simp only[aH];intro q;cases q;omega⟩) bc (by unfold aO at b;unfold maxLen;simp;omega) λi r A B s t _ u=>?_;refine⟨_,_,_,rfl,Ok.mk ⟨i,_,r,λP=>aH i=some P,rfl,by have h:=s.alone;rw[List.nil_append]at h;exact h,g.new t λP b=>.inr ?_,λP b=>?_⟩⟩
   ·simp only[aH,Q1]at b;omega
   ·rcases u P b with h|h<;>omega
def Jh{d:Array Value}{p:jW->Bool}{o:YQ}(j:Row fU 32 w D o a g0)(t:enters ZP y=true)(u:∀e f,ai w f->YX y (#[]++ #[.agg (nz e).toArray]++d) f (Ok λg q=>g= .bool (p e)/\ai f q)):
  YX 129 #[.slice o a c,.func (.func y) #[] d] w (Ok λg w'=>g= .bool (g0.any p)/\ai w w'):=by
 have E:=j.len;have v:=j.dO;unfold aO at v;refine fA (PC.ok (φ:=λg w'=>(∃b:Int,g= ZH b/\(0<=b↔g0.any p=true))/\ai w w') (fX ⟨λe b w'=>∃P:Nat,b=P/\P<=a/\e=a-P/\(g0.take P).any p=false/\ai w w',
  ⟨_,0,rfl,Qj _,rfl,sM,aj.refl _⟩,?_⟩) ?_)
 ·rintro e b _ f ⟨P,rfl,F,rfl,k,h⟩
  refine al.dec (λx=>?_) (λx=>?_)
  ·obtain⟨z,l,m,H,rfl,_,_,r,A,rfl,_⟩:=(j.af h).vQ (i:=P) oM
   refine⟨z,l,rfl,oM,oM,bB (JJ m) rfl A ⟨y,_,_,rfl,t,PC.ok (u m f h) ?_⟩⟩;rintro _ q ⟨rfl,s⟩;refine⟨_,rfl,al.mk (λn=>?_) (λn=>?_)⟩
   ·exact Ok.mk ⟨⟨_,rfl,λ_=>List.any_eq_true.2 ⟨m,QZ r,n⟩,λ_=>oM⟩,h.then s⟩
   ·refine⟨_,oM,P+1,an oM,oM,rfl,?_,h.then s⟩
    rw[Qw,r,List.any_append,k];simp[n]
  ·rw[Qz oM]at k
   exact Ok.mk ⟨⟨_,rfl,λi=>oM,λi=>by rw[k]at i;cases i⟩,h⟩
 ·rintro _ w' ⟨⟨b,rfl,B⟩,C⟩
  exact⟨_,rfl,Ok.mk ⟨by cases i:g0.any p<;>simp[i]at B⊢<;>omega,C⟩⟩
def aS.vM(P:d.Dk e q=some b6):0<=e/\e<d.types.length/\∃a,d.types[e.toNat]? =some a/\d.at e=a/\0<=q/\q<a.length/\a[q.toNat]? =some b6:=by
 unfold aS.Dk at P;split at P
 ·rename_i b
  simp only[QK,bI]at b;have c:e.toNat<d.types.length:=oM
  have f:d.at e=d.types[e.toNat]:=by unfold aS.at;rw[Zx (bI.2 b.1)];simp[c]
  rw[f]at b P;exact⟨oM,oM,_,by simp[c],f,oM,oM,P⟩
 ·cases P
def oy(n:bj w D d ta tn pa pn)(y:∀P,D P->P<w.heap.size):
  YX 71 #[.agg #[.slice ta tn tc,.slice pa pn pc],ZH e,ZH q] w (Ok λz w'=>ai w w'/\match d.Dk e q with
   |none=>z= .tuple #[.agg (dL VH none 0 0).toArray,.bool false]
   |some c=>∃A B C E,z= .tuple #[.agg (dL c A B C).toArray,.bool true]/\aU fU 125 E w' A B C c.bz/\(∀P,E P->w.heap.size<=P)):=by
 have o:=n.aY.len;have a:=n.aY.dO;unfold aO at a;have b:within e 0 ((tn:Int)-1)=false->d.Dk e q=none:=λF=>by unfold aS.Dk;rw[o]at F;rw[Zq (by simp[F])]
 refine Au (PA.mk λw1 V s1 p=>PA.mk λw2 k s2 r=>⟨_,_,_,ae (k.get p id) rfl,PC.ok cy ?_⟩);rintro _ _ ⟨rfl,rfl⟩;rw[wrap_i64 bb];have f:=V.then k;refine⟨_,rfl,al.not (al.mk (λh=>?_) (λh=>?_))⟩
 rotate_left
 ·refine aC (cs:=dL VH none 0 0) (fl _ _ _ _) r rfl λH g I i=>ar (fl _ _ _ _) i (Ok.mk ⟨f.new g λP a=>.inr oM,?_⟩)
  rw[b h]
 have W:=bI.1 h;refine⟨_,_,_,ae (k.get p id) rfl,?_⟩;obtain⟨P,j,X,es,rfl,a8,a9,Y,Z,b0,n1,c1,rfl,s⟩:=((n.af f).aY).at (i:=e) oM oM;have J:=s.len;have a0:=s.dO;unfold aO at a0;have K:d.at e=X:=by
  unfold aS.at;rw[Zx (by rw[<-o];exact h),QQ,Y];rfl
 have t:=Z 0 dC;simp only[ks,Nat.mul_one,Nat.add_zero]at t;refine⟨P,j,rfl,oM,oM,_,_,_,t,PC.ok cy ?_⟩;rintro _ _ ⟨rfl,rfl⟩;rw[wrap_i64 bb];refine⟨_,rfl,al.not (al.mk (λl=>?_) (λl=>?_))⟩
 rotate_left
 ·refine aC (cs:=dL VH none 0 0) (fl _ _ _ _) r rfl λH g I i=>ar (fl _ _ _ _) i (Ok.mk ⟨f.new g λP a=>.inr oM,?_⟩)
  rw[show d.Dk e q=none by unfold aS.Dk;rw[K,<-J,Zq (by simp[l])]]
 have a1:=bI.1 l;refine⟨_,_,_,ae (k.get p id) rfl,P,j,rfl,oM,oM,_,_,_,t,?_⟩;obtain⟨b2,a2,c,b1,rfl,b3,b4,a3,a4,L,M,N,rfl,hM,b5,b6⟩:=s.at (i:=q) oM oM;have a5:d.Dk e q=some c:=by unfold aS.Dk;rw[K,<-J,<-o,Zx (by simp[h,l])];exact a3
 refine⟨b2,a2,rfl,oM,oM,bB (fl c L M N) rfl a4 (PA.mk λH g I i=>aC (fl c L M N) i rfl λw4 u s4 O=>⟨_,_,_,ae O rfl,PC.ok (sO ((hM.af g).keep u λP a Q=>by have:=y P a;have:=f.size;omega) λP a=>by have:=y P a;have:=f.size;omega) ?_⟩)⟩;rintro _ w5 ⟨R,S,T,F5,rfl,a6,m,v⟩;have z5:=m.size;refine⟨_,_,_,rfl,PS.mk (m.get O id) (by simp[dL]) λw6 x s6 g6=>ar (cs:=dL c R S T) (fl _ _ _ _) g6 (aC (fl _ _ _ _) (x.get (m.get (u.get (g.get r id) oM) id) oM) rfl λw7 U s7 g7=>ar (fl _ _ _ _) g7 (Ok.mk ⟨?_,?_⟩))⟩
 ·have a7:ai w w6:=((((f.then g).new u λP a=>.inr oM).then m)).new x λP a=>.inr oM
  exact a7.new U λP a=>.inr oM
 ·rw[a5]
  exact⟨R,S,T,F5,rfl,(a6.keep x λP a Q=>by have:=v P a;omega).keep U λP a Q=>by have:=v P a;omega,λP a=>by have:=v P a;have:=f.size;omega⟩
end
variable{b5:Int}{F c6 i o:Nat}{c7 d r:YQ}{K l:ah}
section
variable {w w':World} {D E:ZN}
def uQ(h:Row aM 8 w E r i K.aJ):YX 305 #[jS l d a c,jS K r i o] w (Ok λj w'=>j= .bool (AL l K)/\ai w w'):=by
 refine AD (PA.mk λq k s P=>PA.mk λm f t b=>λn p=>⟨no,?_⟩);have e:ai m n:=p.keep;have P:=e.get (f.get P id) id;have b:=e.get b id;have g:=(k.then f).then e;refine⟨_,_,_,ae b rfl,_,ae P rfl,id,_,ae P rfl,PC.ok (nB (h.sX.af g)) ?_⟩;rintro _ _ ⟨rfl,rfl⟩;exact⟨_,rfl,aj.refl _,Ok.mk ⟨rfl,g⟩⟩
def HL(k:Row aM 8 w D d a l.aJ)(m:Row aM 8 w E r i K.aJ):YX 266 #[jS l d a c,jS K r i o] w (Ok λn w'=>n= .bool (uR l K)/\ai w w'):=by
 refine CM (PA.mk λt p u P=>PA.mk λv j x f=>?_);have P:=j.get P id;have b:=p.then j;refine⟨_,_,ae P rfl,ae P rfl,_,_,ae f rfl,ae f rfl,LQ.neq ⟨_,rfl,?_⟩⟩;have q:(!(l.origin==K.origin&&l.seq==K.seq))=(aX l !=aX K):=rfl;rw[q];refine al.mk (λg=>ar (bf l d a c) P (ar (bf K r i o) f (PC.ok (uQ (m.af b)) ?_))) (λg=>Ok.mk ⟨by unfold uR;rw[g];rfl,b⟩);rintro _ y ⟨rfl,e⟩;refine⟨_,rfl,al.not (al.mk (λh=>Ok.mk ⟨by unfold uR;rw[g,h];rfl,b.then e⟩) (λh=>ar (bf K r i o) (e.get f id) (ar (bf l d a c) (e.get P id) (PC.ok (uQ (k.af (b.then e))) ?_))))⟩;rintro _ z ⟨rfl,s⟩;exact⟨_,rfl,Ok.mk ⟨by unfold uR;rw[g,h];rfl,(b.then e).then s⟩⟩
def lz:Jz ZP 385 3:=⟨kR,kR,⟨ "op", "arg",kR,dC,dC⟩,kR,kR,kR⟩
abbrev Xn(P:bu)(a:YQ)(b c:Nat):Value:=.agg (dL P a b c).toArray
def wN:YX 265 #[Xn b6 d a c,ZH e,ZH q,ZH O,ZH b5] w (Ok λx w'=>x= .bool (eO b6 (e,q) (O,b5))/\ai w w'):=by
 refine tG (PA.mk λN C T E=>PA.mk λQ y U F=>PA.mk λV o W H=>PS.mk (o.get F id) sM λX p Y I=>PS.mk I sM λZ r s5 J=>PS.mk (r.get (p.get H oM) oM) sM λw6 s s6 K=>PS.mk K sM λt u s7 L=>?_);have R:ai w t:=(((((C.then y).then o).new p λi z=>.inr oM).new r λi z=>.inr oM).new s λi z=>.inr oM).new u λi z=>.inr oM;have S:=u.get (s.get (r.get (p.get (o.get (y.get E id) id) oM) oM) oM) oM;have b:t.heap[N.heap.size]? =some (.cells #[ZH e,ZH q] 385 (0,0)):=u.get (s.get J oM) oM;have f:t.heap[Q.heap.size]? =some (.cells #[ZH O,ZH b5] 385 (0,0)):=L
 clear E F H I J K L C y o p r s u
 have P:∀{i:Bool},eO b6 (e,q) (O,b5)=i->Ok (λx w'=>x= .bool (eO b6 (e,q) (O,b5))/\ai w w') (.returned (.bool i)) t:=λ{i} j=>Ok.mk ⟨by rw[j],R⟩;have M:(((e,q):Int×Int) !=(O,b5))= !(e==O&&q==b5):=rfl;refine⟨_,ae S rfl,al.eD (λg=>?_) (λg=>al.eD (λm=>?_) (λm=>al.eD (λA=>?_) (λA=>P ?_)))⟩
 ·refine⟨_,ae b rfl,al.eD (λh=>⟨_,ae f rfl,al.eD (λk=>⟨_,_,ae b rfl,ae b rfl,_,_,ae f rfl,ae f rfl,lz.neq ⟨_,rfl,P ?_⟩⟩) (λk=>P ?_)⟩) (λh=>P ?_)⟩
  ·unfold eO;rw[Zx g,M,show e=2 from h,show O=2 from k];rfl
  ·unfold eO;rw[Zx g,show e=2 from h,show(O==2)=false by simpa using k];rfl
  ·unfold eO;rw[Zx g,show(e==2)=false by simpa using h];rfl
 ·refine⟨_,ae b rfl,al.eD (λh=>⟨_,ae f rfl,al.eD (λk=>⟨_,_,ae b rfl,ae b rfl,_,_,ae f rfl,ae f rfl,lz.neq ⟨_,rfl,P ?_⟩⟩) (λk=>P ?_)⟩) (λh=>P ?_)⟩
  ·unfold eO;rw[Zq g,Zx m,M,show e=5 from h,show O=5 from k];rfl
  ·unfold eO;rw[Zq g,Zx m,show e=5 from h,show(O==5)=false by simpa using k];rfl
  ·unfold eO;rw[Zq g,Zx m,show(e==5)=false by simpa using h];rfl
 ·have n:eO b6 (e,q) (O,b5)=((e==3&&q==b5)&&(O==4&&b5==q)||(e==4&&q==b5)&&(O==3&&b5==q)):=by
   unfold eO;rw[Zq g,Zq m,Zx A];rfl
  refine⟨_,_,ae b rfl,ae b rfl,lz.eql ⟨_,rfl,al.mk (λv=>⟨_,_,ae f rfl,ae f rfl,lz.eql ⟨_,rfl,al.mk (λB=>P ?_) (λB=>?_)⟩⟩) (λv=>?_)⟩⟩
  ·rw[n,v,B];rfl
  ·have j:((e==3&&q==b5)&&(O==4&&b5==q))=false:=by rw[v,B];rfl
   exact⟨_,_,ae b rfl,ae b rfl,lz.eql ⟨_,rfl,al.mk (λl=>⟨_,_,ae f rfl,ae f rfl,lz.eql ⟨_,rfl,P (by rw[n,j,l];rfl)⟩⟩) (λl=>P (by rw[n,j,l];rfl))⟩⟩
  ·have j:((e==3&&q==b5)&&(O==4&&b5==q))=false:=by rw[v];rfl
   exact⟨_,_,ae b rfl,ae b rfl,lz.eql ⟨_,rfl,al.mk (λl=>⟨_,_,ae f rfl,ae f rfl,lz.eql ⟨_,rfl,P (by rw[n,j,l];rfl)⟩⟩) (λl=>P (by rw[n,j,l];rfl))⟩⟩
 ·unfold eO;rw[Zq g,Zq m,Zq A]
def AM{f:bu}(t:Row aM 8 w D r i l.aJ)(u:Row aM 8 w E c7 F K.aJ):
  YX 203 #[Xn f d a c,jS l r i o,jS K c7 F c6] w (Ok λv w'=>v= .bool (lX f l K)/\ai w w'):=by
 refine wH (PA.mk λC x H y=>PA.mk λI q J z=>PA.mk λA j L g=>?_);have k:=j.get (q.get y id) id;have h:=j.get z id;have e:=(x.then q).then j;refine⟨λs w'=>s=(f.dW==2||f.dW==3&&decide (K.arg<l.arg))/\A=w',?_,?_⟩
 ·refine⟨_,ae k rfl,al.eD (λP=>⟨by rw[show f.dW=2 from P];rfl,rfl⟩) (λP=>⟨_,ae k rfl,al.eD (λm=>⟨_,ae h rfl,_,ae g rfl,?_,rfl⟩) (λm=>⟨?_,rfl⟩)⟩)⟩
  ·rw[show f.dW=3 from m];rfl
  ·rw[show(f.dW==2)=false by simpa using P,show(f.dW==3)=false by simpa using m];rfl
 ·rintro s _ _ ⟨n,rfl⟩
  refine al.mk (λP=>?_) (λP=>Ok.mk ⟨by unfold lX;rw[<-n,P];rfl,e⟩);refine ar (fl f d a c) k ⟨_,ae h rfl,_,ae h rfl,_,ae g rfl,_,ae g rfl,PC.ok wN ?_⟩;rintro _ M ⟨rfl,b⟩;refine⟨_,rfl,al.mk (λp=>ar (bf l r i o) (b.get h id) (ar (bf K c7 F c6) (b.get g id) (PC.ok (HL (t.af (e.then b)) (u.af (e.then b))) ?_))) (λp=>Ok.mk ⟨by unfold lX;rw[<-n,P,p];rfl,e.then b⟩)⟩;rintro _ N ⟨rfl,B⟩;exact⟨_,rfl,Ok.mk ⟨by unfold lX;rw[<-n,P,p];rfl,(e.then b).then B⟩⟩
end
def ku:eZ cY Int where
 k:=2
 ci:=aM
 ib:=8
 inner:=(·.set)
 hd:=λP a b c=>[ZH P.n,.slice a b c]
 ok:=λP=>aN P.n/\vT P.set/\P.set.length<=64
 hl:=λ_ _ _ _=>rfl
 h1:=λP a b c e d=>by simp at d;rcases d with rfl|rfl<;>rfl
 o:=1
 ho:=dC
 fy:=λ_ _ _ _ _ _ _=>rfl
abbrev fw:jU cY:=ku.M_
def Pb:jq ZP 40 84 2 32:=⟨kR,kR,dC⟩
abbrev RN(P:Int):Nat:=if P=1 then 211 else if P=3 then 216 else if P=5 then 219 else 214
abbrev VW(P:Int):Nat:=if P=1 then 212 else if P=2 then 215 else if P=3 then 217 else if P=4 then 218 else 220
def pQ(P:Int):Value:=.agg #[.func (.func (RN P)) #[] #[],.func (.func (VW P)) #[] #[]]
def zV:mE ZP 259 3 257 (.agg #[.nilFunc,.nilFunc]):=⟨kR,kR⟩
def EZ:iJ ZP 3 (Value.int .i64):=Va kR
variable{b1:List cY}
section
variable {w w':World} {D E:ZN}
def zW:YX 154 #[] w (Ok λc w'=>∃b,c= .map (some b)/\bY w' b (Value.int .i64) [((1:Int),pQ 1),(2,pQ 2),(3,pQ 3),(4,pQ 4),(5,pQ 5)]/\ai w w'):=by
 refine E_ (PA.mk λp d q e=>?_);refine iX (k:=(1:Int)) zV EZ (bY.new e) λr f g s=>iX (k:=(2:Int)) zV EZ f λt h i u=>iX (k:=(3:Int)) zV EZ h λv j k x=>iX (k:=(4:Int)) zV EZ j λy l m z=>iX (k:=(5:Int)) zV EZ l λA n o B=>Ok.mk ⟨_,rfl,n,?_⟩;exact((((d.new g λP a=>.inr oM).new i λP a=>.inr oM).new k λP a=>.inr oM).new m λP a=>.inr oM).new o λP a=>.inr oM
def LW(P:1<=e)(a:e<=5):aq [((1:Int),pQ 1),(2,pQ 2),(3,pQ 3),(4,pQ 4),(5,pQ 5)] e=some (pQ e):=by
 have:e=1\/e=2\/e=3\/e=4\/e=5:=oM
 rcases this with rfl|rfl|rfl|rfl|rfl<;>rfl
def Vb(P:bu)(a:YQ)(b c:Nat)(d:YQ)(e f:Nat)(g arg:Int):List Value:=[ZH P.kind,ZH P.dW,.bool P.floor,.slice a b c,.slice d e f,ZH g,ZH arg]
abbrev zY(P:bu)(a:YQ)(b c:Nat)(d:YQ)(e f:Nat)(g arg:Int):Value:=.agg (Vb P a b c d e f g arg).toArray
def ug(P:bu)(a:YQ)(b c:Nat)(d:YQ)(e f:Nat)(g arg:Int):iI ZP 262 (Vb P a b c d e f g arg)=true:=kR
variable {f:bu} {ma ca:YQ} {mn mc cn cc i:Nat} {arg:Int}
def ie(b:ca=some ⟨a,c,none⟩)(g:i<cn):YX 213 #[zY f ma mn mc ca cn cc (i:Int) arg] w (Ok λd w'=>d= .pointer (some ⟨a,c+i*2,none⟩)/\ai w w'):=
 yp (PA.mk λh e j P=>⟨_,_,_,ae P rfl,_,ae P rfl,a,c,b,oM,oM,Ok.mk ⟨rfl,e⟩⟩)
def Pc(e:List bu)(d:List cY)(P c arg:Int):Bool:=
 let f:=e.getD P.toNat ⟨0,0,false,[]⟩
 let a:=d.getD P.toNat ⟨0,[]⟩
 if c=1 then(arg==0||LX a.n arg)&& !(f.floor&&decide (oT (a.n+arg)<0))
 else if c=3 then decide (arg∈a.set)||decide (a.set.length<64)
 else if c=5 then(let b:=f.bz.getD arg.toNat ⟨0,0,0,0⟩;a.n==b.bU&&(decide (b.lb<0)||decide (b.least<=(d.getD b.lb.toNat ⟨0,[]⟩).n)))
 else true
def Fc(a:List bu)(b:List cY)(P c arg:Int):vX a b P c arg=if Pc a b P c arg then 0 else 10:=rfl
def my{bytes:Nat}(f:Row fw bytes w D ca cn b1)(g:i<cn):∃P a b c d,ca=some ⟨P,a,none⟩/\P<w.heap.size/\D P/\w.cell? ⟨P,a+i*2,none⟩=some (ZH (b1.getD i ⟨0,[]⟩).n)/\w.cell? ⟨P,a+i*2+1,none⟩=some (.slice b c d)/\Row aM 8 w D b c (b1.getD i ⟨0,[]⟩).set/\aN (b1.getD i ⟨0,[]⟩).n/\vT (b1.getD i ⟨0,[]⟩).set/\(b1.getD i ⟨0,[]⟩).set.length<=64:=by
 have h:=f.len;obtain⟨P,a,p,k,l,m,j,b,c,d,rfl,n,e⟩:=f.el i b1[i] (by simp[h▸g]);have o:b1.getD i ⟨0,[]⟩=b1[i]:=by simp[QQ,h▸g]
 rw[o];exact⟨P,a,b,c,d,k,l,m,by have:=j 0 dC;simpa[ku,eZ.M_]using this,by have:=j 1 dC;simpa[ku,eZ.M_]using this,n,e.1,e.2.1,e.2.2⟩
def Pd:YX 278 #[ZH e,ZH q] w (Ok λP w'=>P= .bool (LX e q)/\w=w'):=JI (Ok.mk ⟨rfl,rfl⟩)
def Hs{bytes:Nat}(l:Row fw bytes w D ca cn b1)(h:i<cn):
  YX 211 #[zY f ma mn mc ca cn cc (i:Int) arg] w (Ok λm w'=>m= .bool ((arg==0||LX (b1.getD i ⟨0,[]⟩).n arg)&& !(f.floor&&decide (oT ((b1.getD i ⟨0,[]⟩).n+arg)<0)))/\ai w w'):=by
 refine Cs (PA.mk λs j t k=>ar (ug ..) k ?_);obtain⟨n,o,u,v,x,p,q,y,r,b,-⟩:=my (l.af j) h;refine PC.ok (ie p h) ?_;rintro _ z ⟨rfl,e⟩;have a:=e.get k id;have c:=j.then e;refine⟨_,rfl,_,_,rfl,_,(e.cell (a:=⟨n,o+i*2,none⟩) q id).trans r,_,ae a rfl,al.eD (λd=>⟨_,ae a rfl,al.mk (λP=>⟨_,ae a rfl,Ok.mk ⟨?_,c⟩⟩) (λP=>Ok.mk ⟨?_,c⟩)⟩) (λd=>⟨_,ae a rfl,PC.ok Pd ?_⟩)⟩
 ·rw[show(arg==0)=true by simpa using d,P];rfl
 ·rw[show(arg==0)=true by simpa using d,P];rfl
 ·rintro _ _ ⟨rfl,rfl⟩
  have g:(arg==0)=false:=by simpa using d
  refine⟨_,rfl,al.mk (λb=>⟨_,ae a rfl,al.mk (λP=>⟨_,ae a rfl,Ok.mk ⟨?_,c⟩⟩) (λP=>Ok.mk ⟨?_,c⟩)⟩) (λb=>Ok.mk ⟨?_,c⟩)⟩
  ·rw[g,b,P];rfl
  ·rw[g,b,P];rfl
  ·rw[g,b];rfl
def Ht{bytes:Nat}(n:Row fw bytes w D ca cn b1)(a:i<cn):
  YX 216 #[zY f ma mn mc ca cn cc (i:Int) arg] w (Ok λo w'=>o= .bool (decide (arg∈(b1.getD i ⟨0,[]⟩).set)||decide ((b1.getD i ⟨0,[]⟩).set.length<64))/\ai w w'):=by
 refine Ct (PA.mk λp q A r=>λs t=>⟨no,?_⟩);have d:ai p s:=t.keep;have b:=d.get r id;have c:=q.then d;obtain⟨e,g,B,C,E,h,j,F,H,u,k,-,v,-⟩:=my (n.af c) a;refine ar (ug ..) b ⟨id,_,ae b rfl,PC.ok (ie h a) ?_⟩;rintro _ I ⟨rfl,P⟩;have l:=(P.cell (a:=⟨e,g+i*2+1,none⟩) j id).trans u;refine⟨_,rfl,ai.keep P,_,_,rfl,_,_,_,l,PC.ok (sS (k.af P) v) ?_⟩;rintro _ _ ⟨rfl,rfl⟩;refine⟨_,_,rfl,aj.refl _,al.mk (λx=>Ok.mk ⟨by rw[x];rfl,c.then P⟩) (λy=>ar (ug ..) (P.get b id) (PC.ok (ie h a) ?_))⟩;rintro _ J ⟨rfl,m⟩;have z:=k.len;refine⟨_,rfl,_,_,rfl,_,_,_,(m.cell (a:=⟨e,g+i*2+1,none⟩) (Qk j P.size) id).trans l,Ok.mk ⟨?_,(c.then P).then m⟩⟩;rw[y,z]
 congr 1
 rw[Bool.false_or,decide_eq_decide];omega
def Fe{bytes:Nat}(n:Row fw bytes w D ca cn b1)(o:i<cn)(p:Row fU 32 w E ma mn f.bz)(h0:0<=arg)(h1:arg<(mn:Int))(q:((f.bz.getD arg.toNat ⟨0,0,0,0⟩).lb)<(cn:Int)):
  YX 219 #[zY f ma mn mc ca cn cc (i:Int) arg] w (Ok λC w'=>C= .bool (let P:=f.bz.getD arg.toNat ⟨0,0,0,0⟩;(b1.getD i ⟨0,[]⟩).n==P.bU&&(decide (P.lb<0)||decide (P.least<=(b1.getD P.lb.toNat ⟨0,[]⟩).n)))/\ai w w'):=by
 refine zZ (PA.mk λF r s1 g=>?_);have a0:=p.len;obtain⟨a,rfl⟩:∃a:Nat,arg=a:=⟨arg.toNat,oM⟩
 have s:a<f.bz.length:=oM
 obtain⟨H,I,es,J,a1,-,t,rfl,-⟩:=(p.af r).el a f.bz[a] (by simp[s]);have K:f.bz.getD a ⟨0,0,0,0⟩=f.bz[a]:=by simp[QQ,s]
 simp only[Qx,K]at q⊢;generalize f.bz[a]=P at t q;refine⟨_,_,_,ae g rfl,_,ae g rfl,H,I,J,oM,oM,bB (es:=nz P) (k:=4) (JJ P) rfl (λL M=>t L M) (PA.mk λw2 N s2 O=>aC (JJ P) O rfl λu Q s3 R=>λS T=>⟨no,?_⟩)⟩;have v:ai F u:=N.new Q λx y=>.inr oM;have h:ai u S:=T.keep;have z:=(r.then v).then h;have A:=h.get (v.get g id) id;have b:=h.get R id;obtain⟨x,U,a2,a3,a4,V,y,a5,W,hs,-⟩:=my (n.af z) o;refine ar (ug ..) A ⟨id,_,ae b rfl,PC.ok (ie V o) ?_⟩;rintro _ w5 ⟨rfl,c⟩;have b:=c.get b id;have d:=z.then c;refine⟨_,rfl,ai.keep c,_,_,rfl,_,(c.cell (a:=⟨x,U+i*2,none⟩) y id).trans W,al.eD (λe=>⟨_,ae b rfl,al.dec (λj=>Ok.mk ⟨?_,d⟩) (λj=>?_)⟩) (λe=>Ok.mk ⟨?_,d⟩)⟩
 ·rw[show((b1.getD i ⟨0,[]⟩).n==P.bU)=true by simpa using e,Zy j];rfl
 ·obtain⟨k,B⟩:∃k:Nat,P.lb=k:=⟨P.lb.toNat,oM⟩
  obtain⟨X,Y,a',n',c',l,Z,-,m,-⟩:=my (n.af d) (i:=k) oM;refine⟨_,_,_,ae (c.get A id) rfl,_,ae b rfl,X,Y,l,oM,oM,_,by rw[B,Qx];exact m,_,ae b rfl,Ok.mk ⟨?_,d⟩⟩;rw[show((b1.getD i ⟨0,[]⟩).n==P.bU)=true by simpa using e,Xv j,B,Qx];rfl
 ·rw[show((b1.getD i ⟨0,[]⟩).n==P.bU)=false by simpa using e];rfl
end
variable{a2:List Value}{h:Program}
section
variable {w w':World} {D E:ZN}
structure Hu (t:List bu) (cells:List cY) (fi op arg:Int):Prop where
 f0:0<=fi
 f1:fi<(t.length:Int)
 len:cells.length=t.length
 Vc:1<=op
 Vd:op<=5
 mv:op=5->0<=arg/\arg<((t.getD fi.toNat ⟨0,0,false,[]⟩).bz.length:Int)/\(((t.getD fi.toNat ⟨0,0,false,[]⟩).bz.getD arg.toNat ⟨0,0,0,0⟩).lb)<(t.length:Int)
variable {t:List bu} {cells:List cY} {op arg:Int} {ma ca ta:YQ} {mn mc cn cc tn tc i:Nat} {bytes:Nat}
def Pe(P:Hu t cells (i:Int) op arg)(a:Row fw bytes w D ca cn cells)(d:Row fU 32 w E ma mn (t.getD i ⟨0,0,false,[]⟩).bz):
  enters ZP (RN op)=true/\YX (RN op) (#[]++ #[zY (t.getD i ⟨0,0,false,[]⟩) ma mn mc ca cn cc (i:Int) arg]++ #[]) w (Ok λg w'=>g= .bool (Pc t cells (i:Int) op arg)/\ai w w'):=by
 have b:i<cn:=by have:=a.len;have:=P.f1;have:=P.len;omega
 have m:=P.Vc;have n:=P.Vd;have:op=1\/op=2\/op=3\/op=4\/op=5:=oM
 rcases this with rfl|rfl|rfl|rfl|rfl
 ·exact⟨kR,Hs a b⟩
 ·exact⟨kR,si (PA.mk λh c j k=>Ok.mk ⟨rfl,c⟩)⟩
 ·exact⟨kR,Ht a b⟩
 ·exact⟨kR,si (PA.mk λh c j k=>Ok.mk ⟨rfl,c⟩)⟩
 ·obtain⟨l,e,f⟩:=P.mv rfl
  rw[Qx]at e f;exact⟨kR,Fe a b d l (by rw[d.len];exact e) (by rw[a.len,P.len];exact f)⟩
def Pf(op:Int):iI ZP 257 [.func (.func (RN op)) #[] #[],.func (.func (VW op)) #[] #[]]=true:=kR
def Ff{bytes:Nat}(f:Row oU bytes w D ta tn t)(g:i<tn):∃P a b c e,ta=some ⟨P,a,none⟩/\P<w.heap.size/\D P/\w.cell? ⟨P,a+i*4,none⟩=some (ZH (t.getD i ⟨0,0,false,[]⟩).kind)/\w.cell? ⟨P,a+i*4+1,none⟩=some (ZH (t.getD i ⟨0,0,false,[]⟩).dW)/\w.cell? ⟨P,a+i*4+2,none⟩=some (.bool (t.getD i ⟨0,0,false,[]⟩).floor)/\w.cell? ⟨P,a+i*4+3,none⟩=some (.slice b c e)/\Row fU 32 w D b c (t.getD i ⟨0,0,false,[]⟩).bz:=by
 have h:=f.len;obtain⟨P,a,o,j,k,l,d,b,c,e,rfl,m,p⟩:=f.el i t[i] (by simp[h▸g]);have n:t.getD i ⟨0,0,false,[]⟩=t[i]:=by simp[QQ,h▸g]
 rw[n];exact⟨P,a,b,c,e,j,k,l,d 0 dC,d 1 dC,d 2 dC,d 3 dC,m⟩
def Hv(P:Hu t cells e op arg)(g:Row oU 48 w E ta tn t)(n:Row fw bytes w D ca cn cells):
  YX 88 #[.agg #[.slice ta tn tc],.slice ca cn cc,ZH e,ZH op,ZH arg] w (Ok λo w'=>o= ZH (vX t cells e op arg)/\ai w w'):=by
 obtain⟨i,rfl⟩:∃i:Nat,e=i:=⟨e.toNat,by have:=P.f0;omega⟩
 refine JK (PA.mk λL p M q=>PC.ok zW ?_);rintro _ N ⟨O,rfl,r,b⟩;refine⟨_,rfl,mG zV EZ r ?_⟩;rw[LW P.Vc P.Vd];refine⟨_,_,_,rfl,PA.mk λQ h R s=>aC (Pf op) s rfl λu j S d=>λk v=>al.tt rfl ?_⟩;have f:ai u k:=v.keep;have c:ai w k:=((p.then (b.then h)).new j λl a=>.inr (by have:=b.size;omega)).then f;have d:=f.get d id;have x:=f.get (j.get (h.get (b.get q id) id) (by have:=b.size;omega)) id;have T:=P.f1;have U:=g.len;obtain⟨l,y,V,W,z,A,a,X,B,C,F,H,I⟩:=Ff (g.af c) (i:=i) oM;obtain⟨J,K⟩:=Pe (mc:=z) (cc:=cc) P (n.af c) I;refine⟨_,ae d rfl,_,_,_,ae x rfl,l,y,A,oM,oM,_,_,_,_,_,_,B,C,F,H,_,_,_,rfl,J,PC.ok K ?_⟩;rintro _ Y ⟨rfl,m⟩;rw[Fc];exact⟨_,rfl,al.not (al.mk (λa=>Ok.mk ⟨by rw[a];rfl,c.then m⟩) (λa=>Ok.mk ⟨by rw[a];rfl,c.then m⟩))⟩
def Pg(P:c<a*a2.length):((List.replicate a a2).flatten)[c]? =a2[c % a2.length]? :=by
 induction a generalizing c with
 |zero=>simp at P
 |succ a e=>
  rw[List.replicate_succ,List.flatten_cons]
  by_cases b:c<a2.length
  ·rw[XW b,Nat.mod_eq_of_lt b]
  ·rw[X8 oM,e (by rw[X7,Nat.one_mul]at P;omega)]
   obtain⟨d,rfl⟩:∃d,c=d+a2.length:=⟨c-a2.length,oM⟩
   rw[Nat.add_sub_cancel,Nat.add_mod_right]
def Ve{t d:TypeId}{P bytes:Nat}(g:jq h t d P bytes){z:Value}(j:(h.info? d).bind (·.zero)=some z)(l:a<=c)(r:c*bytes<=aO)(s:c<=aO){w:World}{m u:ZR}(v:∀w',Own w' d P (ZM w.heap.size) a c (List.replicate a z.cells.toList).flatten->ai w w'->w'.heap.size=w.heap.size+1->m (.slice (ZM w.heap.size) a c) w'):
  aG h (Instr.makeSlice t (ZH (a:Int)) (ZH (c:Int))) w m u:=by
 unfold aO at r s;obtain⟨i,b,n,o,x,y,e⟩:=jq.info g;have A:b=z:=by
  rw[n]at j;simp only[Option.bind_some,o]at j;exact XJ j
 subst A;have p:=run_make (P:=h) w t d i _ g.under n o .i64 .i64 a c oM oM (by rw[y,Int.mul_comm,<-Int.natCast_mul];omega) oM;rw[Qx,Qx,x]at p;have B:ai w (w.alloc (.cells (madeCells b.cells (c*P)) d)):=aj.alloc w _;have H:a*P<=c*P:=Q0 _ l;have C:(madeCells b.cells (c*P)).size=c*P:=size_madeCells ..;have E:((List.replicate a b.cells.toList).flatten).length=a*P:=by simp[e]
 refine aG.mk p (v _ ⟨⟨E,.inr ⟨w.heap.size,c,_,rfl,Qj _,heap_alloc_new w _,l,by unfold maxLen;omega,C,?_⟩⟩⟩ B sM);apply X3;intro f
 by_cases k:f<a*P
 ·rw[Xw,Zx k,Pg (by simp[e];exact k)]
  unfold madeCells;have F:=g.pos;have q:f % P<b.cells.size:=by rw[e];exact Nat.mod_lt _ F
  simp[e,show f<c*P by omega];rw[getElem!_pos b.cells (f % P) q,X6 q]
 ·rw[Xw,Zq k,Q7 oM]
def Hw(j:ta=ta)(d:tn=t.length)(P:tn<=20000000):YX 85 #[.agg #[.slice ta tn tc]] w (Ok (pC fw 84 w (dX t))):=by
 refine JL (PA.mk λe f k a=>⟨_,_,_,ae a rfl,Ve Pb (z:=.agg #[ZH 0,.slice none 0 0]) kR (Q4 _) ba ba λl b g m=>⟨_,_,_,rfl,Ok.mk ⟨_,_,_,(·=e.heap.size),rfl,⟨⟨_,λ_=>False,b,?_,λ_ h=>h.elim⟩,λc P=>by simpa[aH]using P.symm,λc P=>oM⟩,f.then g,λc P=>oM⟩⟩⟩);subst d
 clear b a
 unfold dX
 induction t with
 |nil=>rfl
 |cons n t i=>exact⟨_,_,rfl,⟨none,0,0,rfl,Row.nil _ _,by simp[aN],List.Pairwise.nil,sM⟩,i (by simp at P;omega)⟩

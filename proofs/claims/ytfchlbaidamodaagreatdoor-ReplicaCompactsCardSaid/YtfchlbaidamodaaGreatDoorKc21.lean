import Derived.Test.YtfchlbaidamodaaGreatDoorYcCodeR
import Derived.Test.YtfchlbaidamodaaGreatDoorKc18
set_option linter.all false
set_option maxRecDepth 100000
namespace Go.Proofs.YtfchlbaidamodaaGreatDoor
open Go.ax
def jB(D:ak)(a:ByteArray):Bool:=decide (a=aS)||((gV a).2&& !decide ((gV a).1∈(dR D).getD []))
def Hf(D:ak):List ByteArray:=D.list.filter (jB D)
def Lu(D:ak)(a:List ByteArray):ak:=a.foldl (λD b=>(D.delete b).2) D
def dH(D:ak):ak:=Lu D (Hf D)
def BH(a:List ByteArray):List (List Value):=a.map λb=>[.string b]
def RL(D:ak)(a:List (List Value)):ak:=a.foldl (λD b=>match b with
 |[.string c]=>(D.delete c).2
 |_=>D) D
def Fz:∀(a:List ByteArray) (D:ak),RL D (BH a)=Lu D a
 |[],D=>rfl
 |s::a,D=>Fz a (D.delete s).2
def Ph(D:ak)(a:List (List Value))(b:ByteArray):RL D (a++[[.string b]])=((RL D a).delete b).2:=by
 unfold RL;rw[List.foldl_append];rfl
def FA(a:List ByteArray)(b:ByteArray):BH (a++[b])=BH a++[[.string b]]:=by unfold BH;simp
variable{e:Int}{s:List Int}{a c i n:Nat}{d:Option Addr}{b:World}
def Eo{D:Nat->Prop}(g:Row aP 8 b D d a s):
  Calls ZQ 249 #[.slice d a c,QH e] b (Ok λq j=>(∃n:Int,q= QH n/\(0<=n↔e∈s))/\b=j):=by
 have x:=g.len;have r:=g.d_;unfold aQ at r;refine oE ⟨λo i j=>∃f:Nat,i=f/\f<=a/\o=a-f/\e∉s.take f/\b=j,⟨_,0,rfl,Qj _,rfl,sM,rfl⟩,?_⟩;rintro o i _ _ ⟨f,rfl,y,rfl,k,rfl⟩;refine al.dec (λt=>?_) (λt=>?_)
 ·obtain⟨u,l,z,rfl,p,_,v⟩:=g.mh (i:=f) oM
  refine⟨u,l,rfl,oM,oM,_,v,al.dX (λm=>?_) (λm=>?_)⟩
  ·exact Ok.mk ⟨⟨_,rfl,λ_=>m▸QZ p,λ_=>oM⟩,rfl⟩
  ·refine⟨_,oM,f+1,an oM,oM,rfl,?_,rfl⟩
   rw[Qw,p];intro w;rcases Q6.1 w with h|h
   ·exact k h
   ·simp at h;exact m h
 ·rw[Qz oM]at k
  exact Ok.mk ⟨⟨_,rfl,λh=>oM,λh=>absurd h k⟩,rfl⟩
def xN{D:Nat->Prop}(f:Row aP 8 b D d a s):
  Calls ZQ 178 #[.slice d a c,QH e] b (Ok λg h=>g= .bool (decide (e∈s))/\b=h):=by
 refine lV (PC.ok (Eo f) ?_);rintro _ _ ⟨⟨j,rfl,i⟩,rfl⟩;exact⟨_,rfl,Ok.mk ⟨by rw[decide_eq_decide.2 i],rfl⟩⟩
section
variable {w0 w w1 w':World} {p:Nat} {D D':ak} {X Y:Nat->Prop}
def bf.lt(b:bf w0 w p D X):∀a,X a->a<w.heap.size:=by obtain⟨d,e,f,g,c⟩:=b;exact c
def Pj(j:bf w0 w p D X)(t:qU w0):Calls ZQ 124 #[ZX p] w (Ok λu w'=>∃k l e f g,∃Y G:Nat->Prop,u= .func (.func 175) #[] #[ZX k,ZX l]/\
  (∃h m,w'.heap[k]? =some (.cells #[ZX p] h m))/\(∃h m,w'.heap[l]? =some (.cells #[.slice e f g] h m))/\aV aP 3 G w' e f g ((dR D).getD [])/\Y k/\Y l/\(∀b,G b->Y b)/\bf w0 w' p D (λb=>X b\/Y b)/\ai w w'):=by
 have B:=j.gr.size;refine Af (PA.mk λw1 o C q=>⟨_,ae q rfl,PC.ok ((j.add o (Y:=(·=w.heap.size)) λb a=>⟨oM,oM⟩).iK t) ?_⟩);rintro _ c ⟨e,f,g,G,rfl,r,E,v,n⟩;refine⟨_,_,_,_,rfl,PA.mk λF i H x=>PS.mk x sM λI d J y=>Ok.mk ⟨w.heap.size,c.heap.size,e,f,g,λb=>(b=w.heap.size\/G b)\/b=c.heap.size,G,rfl,?_⟩⟩;have K:=n.size;have z:w.heap.size≠c.heap.size:=oM
 have s:∀b,G b->b<c.heap.size:=r.aF;have A:=v.add i (Y:=(·=c.heap.size)) λb a=>⟨oM,oM⟩
 refine⟨⟨_,_,d.get (i.get (n.get q id) id) z⟩,⟨_,_,y⟩,(r.af i).keep d (λb a h=>by have:=s b a;omega),.inl (.inl rfl),.inr rfl,λb a=>.inl (.inr a),?_,?_⟩
 ·refine A.fr d (λb a=>⟨.inr a,oM⟩) λb a=>⟨.inl ?_,?_⟩
  ·rcases a with a|(a|a)|a
   ·exact .inl (.inl (.inl a))
   ·exact .inl (.inl (.inr a))
   ·exact .inl (.inr a)
   ·exact .inr a
  ·have:=d.size
   rcases a with a|(a|a)|a
   ·have:=j.lt b a;omega
   ·omega
   ·have:=s b a;omega
   ·omega
 ·exact aj.new ((o.then n).then i) d λb a=>.inr oM
def CJ(w0 b:World)(p:Nat)(D:ak)(f:Nat->Prop)(c:World×(Nat->Prop))(d:List (List Value))(e:World):Prop:=
 bf w0 e p (RL D d) (λa=>(f a\/(b.heap.size<=a/\a<b.heap.size+2))\/c.2 a)/\aj (et f) b e/\aj (et c.2) c.1 e/\∀a,c.2 a->b.heap.size+2<=a
variable {w5:World} {X5:Nat->Prop} {s:World×(Nat->Prop)} {pre:List (List Value)} {A B:World}
def CJ.af(a:CJ w0 w5 p D X5 s pre A)(b:ai A B):CJ w0 w5 p D X5 s pre B:=⟨a.1.af b,a.2.1.af b,a.2.2.1.af b,a.2.2.2⟩
def CJ.fr(f:ai w0 w5)(g:CJ w0 w5 p D X5 s pre A)(h:qV (w5.heap.size+1) A B):CJ w0 w5 p D X5 s pre B:=by
 obtain⟨d,i,j,e⟩:=g;obtain⟨c,k⟩:=h;have:=f.size;refine⟨d.fr c (λa b=>⟨.inl (.inr ⟨oM,oM⟩),oM⟩) λa b=>⟨.inl b,by rw[k];exact d.lt a b⟩,i.new c λa b=>.inr oM,j.new c λa b=>.inl λl=>?_,e⟩;have:=e a l;omega
def Je{G:Nat->Prop}{R:World->Prop}(X:Laid w0)(a5:∀b,X5 b->b<w5.heap.size)(t:∃u v,w5.heap[a]? =some (.cells #[ZX p] u v))(Y:X5 a)(w:∃u v,w5.heap[c]? =some (.cells #[.slice d i n] u v))(Z:X5 c)(hl:aV aP 3 G w5 d i n ((dR D).getD []))(hG:∀b,G b->X5 b)(F:∀A B,R A->aj (oF w5) A B->R B)(H:∀s pre x A,CJ w0 w5 p D X5 s pre A->R A->uw [.string ⟨#[]⟩] x->ks ZQ (w5.heap.size+1) x A λb o=>b=true/\CJ w0 w5 p D X5 s (pre++[x]) o/\R o)(y:CJ w0 w5 p D X5 (w5,no) [] w1)(a0:R w1)(a1:w5.heap.size+2<=w1.heap.size):
  Calls ZQ 175 #[.func (.yield (w5.heap.size+1)) #[] #[],ZX a,ZX c] w1 (Ok λa4 w'=>R w'/\∃s,CJ w0 w5 p D X5 s (BH (Hf D)) w'):=by
 obtain⟨e2,f2,t⟩:=t;obtain⟨e4,f4,w⟩:=w;have I:bf w0 w1 p D _:=y.1;refine ux ⟨_,ae (y.2.1.get t λf=>f Y) rfl,PC.ok I.list ?_⟩;rintro _ z ⟨a8,J,c8,K,rfl,L,a2,h8,M⟩;have a6:D.list.length<=64:=by rw[oG];exact I.ok.many
 have a7:=L.len dC;have a3:CJ w0 w5 p D X5 (z,K) [] z:=⟨h8.mono λb g=>g.elim (λh=>.inl (.inl h)) .inr,y.2.1.af M,aj.refl _,λb g=>Xx a1 (a2 b g)⟩
 refine⟨_,_,_,rfl,λN O w'=>∃e:Nat,O=e/\e<=J/\N=J-e/\CJ w0 w5 p D X5 (z,K) (BH ((D.list.take e).filter (jB D))) w'/\R w',⟨_,0,rfl,Qj _,rfl,a3,F _ _ a0 (ai.keep M)⟩,?_⟩;rintro N O _ a9 ⟨e,rfl,hj,rfl,l,P⟩;refine al.dec (λb0=>?_) (λb1=>?_)
 ·obtain⟨b,C,s,rfl,Q,_,m⟩:=((L.keep l.2.2.1 λb g f=>f g).row (bytes:=16) dC (by unfold aQ;omega)).mh (i:=e) oM
  refine⟨b,C,rfl,oM,oM,_,m,PC.ok (BI (X.af l.1.gr)) ?_⟩;rintro _ b2 ⟨rfl,S⟩;have k:=l.af S;have q:=F _ _ P (ai.keep S);have T:uw [.string ⟨#[]⟩] [.string s]:=λφ h=>h s;have U:jB D s=true->(D.list.take (e+1)).filter (jB D)=(D.list.take e).filter (jB D)++[s]:=λh=>by
   rw[Qw,Q,List.filter_append];simp[h]
  have V:jB D s=false->(D.list.take (e+1)).filter (jB D)=(D.list.take e).filter (jB D):=λh=>by
   rw[Qw,Q,List.filter_append];simp[h]
  refine⟨_,_,rfl,al.YJ (λhe=>?_) (λW=>al.mk (λr=>?_) (λr=>?_))⟩
  ·refine⟨_,rfl,(H _ _ _ _ k q T).mono ?_⟩
   rintro _ o ⟨rfl,j,E⟩;refine al.ff rfl ⟨_,?_,e+1,an oM,oM,rfl,?_,E⟩
   ·omega
   ·rw[U (by unfold jB;rw[show s=aS from he];simp),FA];exact j
  ·refine⟨_,_,_,ae (k.2.1.get w λf=>f Z) rfl,PC.ok (xN ((hl.keep k.2.1 λb g f=>f (hG b g)).row (bytes:=8) dC (by have:=FB (D:=D);unfold aQ;omega))) ?_⟩
   rintro _ _ ⟨rfl,rfl⟩;refine⟨_,rfl,al.mk (λm=>?_) (λm=>?_)⟩
   ·refine⟨_,rfl,(H _ _ _ _ k q T).mono ?_⟩
    rintro _ o ⟨rfl,j,E⟩;refine al.ff rfl ⟨_,?_,e+1,an oM,oM,rfl,?_,E⟩
    ·omega
    ·rw[U (by unfold jB;rw[r,m];simp),FA];exact j
   ·refine⟨_,?_,e+1,an oM,oM,rfl,?_,q⟩
    ·omega
    ·rw[V (by unfold jB;rw[r,m,Xv (show¬s=aS from W)];rfl)];exact k
  ·refine⟨_,?_,e+1,an oM,oM,rfl,?_,q⟩
   ·omega
   ·rw[V (by unfold jB;rw[r,Xv (show¬s=aS from W)];rfl)];exact k
 ·rw[Qz oM]at l
  exact Ok.mk ⟨P,_,l⟩
def Pk(t:Laid w0)(d:bf w0 w p D X):Calls ZQ 64 #[ZX p] w (Ok λj w'=>j= .tuple #[]/\bf w0 w' p (dH D) X/\aj (et X) w w'):=by
 have a6:=d.gr.size;refine Ag (PA.mk λw1 u s1 v=>⟨_,ae v rfl,PC.ok (Pj (d.add u (Y:=(·=w.heap.size)) λa b=>⟨oM,oM⟩) t.oH) ?_⟩);rintro _ w5 ⟨b2,b4,a0,a1,a2,Y,G,rfl,E,F,H,I,J,K,k,l⟩;have L:=l.get v id;have m:=k.gr;have z5:=l.size;refine⟨_,rfl,175,_,rfl,kR,World×(Nat->Prop),(w5,no),CJ w0 w5 p D λa=>(X a\/a=w.heap.size)\/Y a,λ_ _ _=>False,λ_ _=>True,λn=>n=BH (Hf D),?_,λs pre A B e f=>e.fr m f,λ_ _ _ _ d _=>d,?_,?_,?_,trivial⟩
 ·intro M o s6
  exact⟨(k.add o (Y:=λa=>w5.heap.size<=a/\a<w5.heap.size+2) λa b=>⟨b.1,oM⟩).mono λa b=>b.elim id False.elim,ai.keep o,ai.keep o,λa b=>b.elim⟩
 ·intro s pre A e a7 a8 _
  refine⟨aj.refl _,λa9 f=>?_⟩;obtain⟨g,i,x,y⟩:=e.fr m f;refine⟨_,ae (i.get L λc=>c (.inl (.inr rfl))) rfl,PC.ok g.delete ?_⟩;rintro _ b0 ⟨rfl,N,q⟩;refine⟨_,rfl,q.mono λa _ c=>⟨λO=>c (.inl (.inr ⟨oM,oM⟩)),λO=>c (.inl (.inr ⟨oM,oM⟩))⟩,?_⟩;show CJ _ _ _ _ _ _ _ _;refine⟨by rw[Ph];exact N,i.new q λa c=>.inl λh=>c (.inl (.inl h)),x.new q λa c=>.inl λh=>c (.inr h),y⟩
 ·intro P Rx Q _ R S M T z
  refine Calls.mono (Je (R:=P) t k.lt E (.inr I) F (.inr J) H (λa b=>.inr (K a b)) Q (λs pre U A e V f=>(S s pre U A e V f trivial).mono ?_) T z (R _ z)) ?_
  ·rintro a W (d|⟨-,a3,d,-⟩)
   ·exact d
   ·exact d.elim
  ·rintro _ W ⟨j,rfl,Z,s,r⟩
   exact⟨⟨j,rfl⟩,.inl ⟨Z,s,_,r,rfl⟩⟩
 ·rintro s _ A ⟨g,i,x,y⟩ rfl hm
  refine⟨hm,λb1 ⟨C,a5⟩=>Ok.mk ⟨rfl,?_,?_⟩⟩
  ·rw[Fz]at g
   exact(g.fr C (λa b=>⟨.inl (.inr ⟨oM,oM⟩),by have:=m.size;omega⟩) λa b=>⟨.inl b,by rw[a5];exact g.lt a b⟩).mono λa b=>.inl (.inl (.inl (.inl b)))
  ·exact aj.new (aj.new (ai.keep (u.then l)) i λa c=>.inl λh=>c (.inl (.inl h))) C λa b=>.inr oM
end
end Go.Proofs.YtfchlbaidamodaaGreatDoor
namespace Go.Proofs
open Go.RowKit Go.Maps Go.Sort Go.Shelf
def Tryz.WQ(d:Nat):AnyZI.SortsIn Tryz.prog Tryz.zR Fence.wide d:=
 ⟨λaI b a e c f g h=>callsIn_wide.2 (AnyM.slices_Sort_int Tryz.xq aI b a e c f g h),
  λi a c=>callsIn_wide.2 (AnyM.slices_Sort_int_none Tryz.xq i a c)⟩
end Go.Proofs
namespace Go.Proofs.YtfchlbaidamodaaGreatDoor
open Go.ax
open Go.RowKit Go.Maps Go.Sort Go.Shelf
def xq(a:List Int):List Int:=a.mergeSort (λb c=>decide (b<=c))
variable{g2:List (Int×Value)}{a c:Nat}{F:Nat×Nat}{g:TypeId}{b:World}
def AQ(x:cx b a (Value.int .i64) g2)(I:∀i∈g2,aN i.1)(y:g2.length*8<=aQ)(z:b.heap[c]? =some (.cells #[.map (some a)] g F)):
  Calls ZQ 239 #[.func (.func 289) #[] #[ZX c]] b
   (Ok λq A=>Ix b 3 (xq (g2.map (·.1))) q A):=by
 unfold aQ at y;obtain⟨f,j,J,n,K,L⟩:=x.at';have M:Tryz.prog.underlying 3=some (.int .i64):=Tryz.underlying3;have N:f.size=g2.length:=by have:=congrArg List.length n;simpa using this
 have O:∀d:Int,aN d->(Lit.int .i64 d).wf=true:=λd k=>by unfold aN at k;simp[Lit.wf,IntKind.min,IntKind.max,IntKind.signed,IntKind.bits];omega
 have B:∀e∈f.toList,∃d,e.key=Value.int .i64 d/\aN d:=λe h=>by
  have P:(e.key,e.val)∈g2.map (λi=>(Value.int .i64 i.1,i.2)):=by rw[<-n];exact Xk.2 ⟨e,h,rfl⟩
  obtain⟨i,Q,R⟩:=Xk.1 P;exact⟨i.1,(Prod.mk.inj R).1.symm,I i Q⟩
 have C:∀e∈f.toList,∀d,e.key=Value.int .i64 d->aN d->WideElems.rd ZQ 3 (λ_=>some ((.nil:DataW Unit),[])) e=some (.int .i64 d,.nil):=λe _ d k l=>by
  simp[WideElems.rd,k,Maps.keyOf_int_mk M (O d l)]
 have S:WideElems.Fit ZQ 3 (λ_=>some ((.nil:DataW Unit),[])) f j:=by
  refine⟨by unfold maxLen;omega,⟨K,L,?_⟩,λe h=>?_⟩
  ·have:f.toList.map (·.key)=(g2.map (·.1)).map (Value.int .i64):=by
    have:=congrArg (List.map (λr:Value×Value=>r.1)) n;simpa[Function.comp_def]using this
   rw[this];exact List.pairwise_map.2 (List.Pairwise.imp (λT=>by simpa using T) x.tidy)
  ·obtain⟨d,k,l⟩:=B e h
   exact⟨_,C e h d k l⟩
 have U:b.ownsMap ZQ 3 (λ_=>some ((.nil:DataW Unit),[])) a f.size (.map ((f.toList.map (WideElems.rg ZQ 3 (λ_=>some ((.nil:DataW Unit),[])))).foldr DataW.insert [])):=
  ⟨f,j,J,S,Q4 _,rfl⟩
 have E:Maps.size (.map ((f.toList.map (WideElems.rg ZQ 3 (λ_=>some ((.nil:DataW Unit),[])))).foldr DataW.insert []))=g2.length:=by
  show(List.foldr DataW.insert [] _).length=_;rw[(WideShapes.sorted_perm _).length_eq];simp[N]
 have V:(intKeys (.map ((f.toList.map (WideElems.rg ZQ 3 (λ_=>some ((.nil:DataW Unit),[])))).foldr DataW.insert []))).Perm (g2.map (·.1)):=by
  refine(List.Perm.map (λi:Lit×DataW Unit=>Go.intOf i.1) (WideShapes.sorted_perm _)).trans ?_;have:(f.toList.map (WideElems.rg ZQ 3 (λ_=>some ((.nil:DataW Unit),[])))).map (λi=>Go.intOf i.1)=g2.map (·.1):=by
   have W:f.toList.map (λe=>match e.key with| .int _ d=>d|_=>0)=g2.map (·.1):=by
    have:=congrArg (List.map (λr:Value×Value=>match r.1 with| .int _ d=>d|_=>0)) n;simpa[Function.comp_def]using this
   rw[<-W,List.map_map];refine List.map_congr_left λe h=>?_;obtain⟨d,k,l⟩:=B e h;simp[WideElems.rg,C e h d k l,k,Go.intOf]
  rw[this]
 have X:SeqGives Fence.wide 1 ZQ 289 #[ZX c] encZ (λm=>m.Perm (intKeys _)) (Maps.size _) b:=
  AnyZI.keys_gives (ρ:=Tryz.GD) {Tryz.Yf with} Fence.wide _ trivial rfl oM c a f.size _ b (aC z) (ae z rfl) U
 have Y:=AnyZI.sorted_in Tryz.UY Fence.wide 4 trivial trivial trivial trivial rfl oM (Tryz.WQ _) (enters_of Tryz.func288 kR rfl) 289 #[ZX c] trivial
  (enters_of Tryz.func289 kR rfl) _ _ (by rw[E];unfold maxLen;omega) (by rw[E];exact y) b X
 refine((callsIn_wide (n:=4)).1 Y).mono ?_;rintro e A ⟨q,m,rfl,Z,o,a5,s⟩;have H:m.mergeSort (λd a0=>decide (d<=a0))=xq (g2.map (·.1)):=mergeSort_of_perm_i (Z.trans V);have a6:m.length=(xq (g2.map (·.1))).length:=by rw[<-H];simp
 rw[H]at o;have hv:∃t u,q= .slice t m.length u:=by
  rcases o.2 with⟨rfl,h0⟩|⟨g',v,w,rfl,_⟩
  ·exact⟨none,0,by rw[h0]⟩
  ·exact⟨_,_,rfl⟩
 obtain⟨t,u,rfl⟩:=hv;refine Ok.mk ⟨t,_,u,rfl,⟨ownsRow_base_a o (Qj _)⟩,aj.IQ s,λa1 p=>?_⟩;rcases o.2 with⟨h,_⟩|⟨g',v,w,h,a7,_⟩
 ·simp only[XX]at h
  rw[h.1]at p;cases p
 ·simp only[XX]at h
  rw[h.1]at p;simp only[aI,Q1]at p;omega
end Go.Proofs.YtfchlbaidamodaaGreatDoor
namespace Go.Proofs.YtfchlbaidamodaaGreatDoor
open Go.ax
structure kr where
 dx:Int
 asked:List (Int×Int)
 heard:List (Int×List Int)
 deriving DecidableEq
def Zd(a:Value)(b:Int):Prop:=a= QH b
def QL(f:World)(g:Nat->Prop)(h:Value)(c:List Int):Prop:=
 ∃a b d,h= .slice a b d/\Own f 3 1 a b d (ints c)/\b*8<=aQ/\(∀i∈c,aN i)/\∀e,aI a=some e->g e
def QL.keep{S d F':Nat->Prop}{c g:World}{h:Value}{i:List Int}(e:QL c d h i)(n:aj S c g)(o:∀a,d a->a<c.heap.size->(∃j,c.heap[a]? =some j/\∀k l,j≠.map k l)->¬S a)(p:∀a,d a->F' a):QL g F' h i:=by
 obtain⟨q,r,s,rfl,f,b,t,m⟩:=e;refine⟨q,r,s,rfl,f.keep n (dN.2 λa b=>?_),b,t,λa b=>p a (m a b)⟩;refine o a (m a b) (f.lt b) ?_;rcases f.cases with⟨rfl,_⟩|⟨w,u,rfl,v,_⟩
 ·cases b
 ·simp only[aI,Q1]at b
  subst b;exact⟨_,v,λk l e=>by cases e⟩
structure eG (w:World) (p:Nat) (F:Nat->Prop) (T:kr):Prop where
 body:∃ra rh la lh,w.heap[p]? =some (.cells #[QH T.dx,.map (some ra),.map (some rh)] 150 (0,0))/\cx w ra (Value.int .i64) la/\cx w rh (Value.int .i64) lh/\
  fJ Zd la T.asked/\fJ (QL w F) lh T.heard/\F ra/\F rh/\ra≠rh
 self:F p
 aF:∀b,F b->b<w.heap.size
 KQ:Tidy T.asked
 tQ:∀q∈T.asked,aN q.1
variable{X r:Array Value}{t:Ending->World->Prop}{z:FuncId}{C V b1 b6 b7 b8 e m:Int}{h6:List (Int×List Int)}{g2:List (Int×Value)}{b3 s:List Int}{E a c i n:Nat}{f:Nat->Prop}{d p:Option Addr}{b k:World}{b5:kr}
def eG.keep{S g:Nat->Prop}(c:eG b a g b5)(e:aj S b k)(f:∀d,g d->¬S d):eG k a g b5:=by
 obtain⟨l,m,n,o,p,q,r,s,t,i,j,u⟩:=c.body;exact⟨⟨l,m,n,o,e.get p (f _ c.self),q.keep e (f _ i),r.keep e (f _ j),s,t.mono λw x v=>v.keep e (λd h _ _=>f d h) (λ_ c=>c),i,j,u⟩,
  c.self,λd h=>Qk (c.aF d h) e.size,c.KQ,c.tQ⟩
def eG.af(c:eG b a f b5)(d:ai b k):eG k a f b5:=c.keep d λ_ _ c=>c
def kI:jh ZQ 3 (Value.int .i64):=Xc Tryz.underlying3
def mA:nu ZQ 147 3 3 (QH 0):=⟨kR,kR⟩
def mH:nu ZQ 148 3 55 (.slice none 0 0):=⟨kR,kR⟩
def Kv:Calls ZQ 37 #[QH e] b
  (Ok λj f=>∃g h,j= ZX g/\eG f g h ⟨e,[],[]⟩/\ai b f/\∀a,h a->b.heap.size<=a):=by
 refine Et (PA.mk λk l r m=>PA.mk λn i s o=>PA.mk λp c t q=>Ok.mk ⟨n.heap.size,λa=>b.heap.size<=a/\a<p.heap.size,rfl,
  ⟨⟨b.heap.size,k.heap.size,[],[],q,cx.new (c.get (i.get m id) id),cx.new (c.get o id),trivial,trivial,oM,oM,oM⟩,oM,λa d=>d.2,by simp[Tidy],sM⟩,
  (l.af i).af c,λa d=>d.1⟩)
def KB(c:eG b a f b5)(u:aN e):
  Calls ZQ 94 #[ZX a,QH e,QH m] b
   (Ok λq k=>q= .tuple #[]/\eG k a f {b5 with asked:=aJ b5.asked e m}/\aj f b k):=by
 obtain⟨d,v,L,w,l,r,x,y,z,s,A,t⟩:=c.body;have B:∃g h,b.heap[d]? =some (.map g h):=by obtain⟨g,h,c,_⟩:=r.at';exact⟨g,h,c⟩
 obtain⟨g,h,n⟩:=B;have C:a≠d:=by rintro rfl;rw[l]at n;cases n
 refine qb ⟨a,0,rfl,some d,ae l rfl,jz mA kI r λk E i F=>Ok.mk ⟨rfl,⟨⟨d,v,_,w,i.get l C,E,x.keep i (Ne.symm t),fJ.aJ (R:=Zd) rfl y,?_,s,A,t⟩,c.self,?_,c.KQ.aJ _ _,?_⟩,i.mono ?_⟩⟩
 ·refine z.mono λq M H=>H.keep i (λo _ _ j=>?_) (λ_ c=>c)
  rintro rfl;obtain⟨N,j,I⟩:=j;rw[n]at j;cases j;exact I _ _ rfl
 ·intro o J;rw[F];exact c.aF o J
 ·intro K p
  rcases fG p with rfl|p
  ·exact u
  ·exact c.tQ K p
 ·rintro o _ rfl;exact s
def kr.all(b:kr)(a:Int)(c:List Int):List Int:=jo ((ay b.heard a).getD []) c
def Iv(b a:List Int):Bool:=sk b a==0||sk b a==2
def kr.ends(c:kr)(a:Int)(d b:List Int):Bool:=(ay c.asked a).isSome&&Iv (c.all a d) b
def kr.AP(b:kr)(a:Int)(d c:List Int):kr:=
 {b with heard:=aJ b.heard a (b.all a d),asked:=if b.ends a d c then bV b.asked a else b.asked}
def DG(c:∀d∈s,aN d)(a:Int):aN (fH s a):=by
 unfold fH;split
 ·unfold aN;omega
 ·by_cases b:a.toNat<s.length
  ·have:=c s[a.toNat] (XY b)
   simp only[List.getD,Qq b,Option.getD_some];unfold aN at*;omega
  ·have:s[a.toNat]? =none:=by simp;omega
   simp only[List.getD,this,Option.getD_none];unfold aN;omega
def Gw(c:∀a∈s,aN a)(d:∀a∈b3,aN a):∀a∈jo s b3,aN a:=by
 intro a e;obtain⟨b,_,rfl⟩:=Xk.1 e;have f:=DG c b;have g:=DG d b;unfold aN at*;omega
def Iw(a b:List Int):(jo a b).length=max a.length b.length:=tO _ _ _
def eG.UR(k:fJ (QL b f) g2 h6)(a:Int):
  ∃c d e,(ay g2 a).getD (.slice none 0 0)= .slice c d e/\Ints b c d ((ay h6 a).getD [])/\d*8<=aQ/\∀i,aI c=some i->f i:=by
 rcases k.ay a with⟨g,h⟩|⟨o,p,g,h,c,d,e,rfl,l,j,m,n⟩
 ·rw[g,h];exact⟨none,0,0,rfl,Ints.nil b,by simp[aQ],by simp[aI]⟩
 ·rw[g,h];exact⟨c,d,e,rfl,l.ints j m,j,n⟩
def Kr(g:eG b a f b5)(M:Ints b d c s)(hy:Ints b p i b3)(W:b3≠[]->pF f p):
  Calls ZQ 53 #[ZX a,QH e,.slice d c n,.slice p i E] b
   (Ok λu t=>∃F',u= .bool (b5.ends e s b3)/\eG t a F' (b5.AP e s b3)/\de f b F' t):=by
 obtain⟨r,w,H,lh,I,z,X,N,h5,Y,O,P⟩:=g.body;obtain⟨m,o,Q⟩:∃m o,b.heap[w]? =some (.map m o):=by obtain⟨m,o,g,_⟩:=X.at';exact⟨m,o,g⟩
 obtain⟨c9,d0,a6⟩:∃m o,b.heap[r]? =some (.map m o):=by obtain⟨m,o,g,_⟩:=z.at';exact⟨m,o,g⟩
 have b7:a≠w:=by rintro rfl;rw[I]at Q;cases Q
 have b8:a≠r:=by rintro rfl;rw[I]at a6;cases a6
 obtain⟨ha,hn,hc,hg,R,hB,hF⟩:=eG.UR h5 e;refine qd ⟨a,0,rfl,some w,ae I rfl,AY mH kI X ⟨ha,hn,hc,hg,PC.ok (BG R M) ?_⟩⟩;rintro _ w1 ⟨x,A,S,rfl,Z,v,a7⟩;have b9:A=(b5.all e s).length:=by have:=Z.length;rw[jQ,Nat.mul_one]at this;exact this.symm
 have a8:A*8<=aQ:=by
  rw[b9];unfold kr.all;rw[Iw];have:=R.len;have:=R.d_;have:=M.len;have:=M.d_;unfold aQ at*;omega
 have a9:∀c0∈b5.all e s,aN c0:=Gw R.AS M.AS;refine⟨x,A,S,rfl,a,0,rfl,some w,ae (v.get I id) rfl,jz mH kI (X.keep v id) λk b0 B c1=>?_⟩;have J:aI x≠some w:=λl=>by have:=a7 _ l;have:=aC Q;omega
 have b1:Own k 3 1 x A S (ints (b5.all e s)):=Z.keep B (dN.2 λp W=>by rintro rfl;exact J W);have c2:Ints k p i b3:=(hy.af v).IS B λc3 a0 hq=>by rintro rfl;exact W c3 a0 hq O
 refine PC.ok (OP (b1.ints a8 a9) c2) ?_;rintro _ _ ⟨rfl,rfl⟩;have T:k.heap[a]? =some (.cells #[QH b5.dx,.map (some r),.map (some w)] 150 (0,0)):=B.get (v.get I id) b7;have U:cx k r (Value.int .i64) H:=(z.keep v id).keep B P;refine⟨_,rfl,?_⟩
 let F':Nat->Prop:=λh=>f h\/(b.heap.size<=h/\h<w1.heap.size)
 have a1:de f b F' k:=⟨(v.keep (S:=f)).trans B (λ_ _ g=>g) (by rintro h _ rfl;exact O),λh q=>q.imp id (·.1)⟩
 have b2:fJ (QL k F') (aJ lh e (.slice x A S)) (aJ b5.heard e (b5.all e s)):=by
  refine fJ.aJ ⟨x,A,S,rfl,b1,a8,a9,λh q=>.inr ⟨a7 h q,Z.lt q⟩⟩ (h5.mono λu ys K=>?_);refine(K.keep v (F':=f) (λ_ _ _ _ g=>g) (λ_ g=>g)).keep B (λh _ _ j=>?_) (λ_ g=>.inl g);rintro rfl;obtain⟨c4,j,J⟩:=j;rw[v.get Q id]at j;cases j;exact J _ _ rfl
 have b4:∀h,F' h->h<k.heap.size:=λh q=>by
  rw[c1];rcases q with q|q
  ·exact Qk (g.aF h q) v.size
  ·exact q.2
 have c5:eG k a F' {b5 with heard:=aJ b5.heard e (b5.all e s)}:=
  ⟨⟨r,w,H,_,T,U,b0,N,b2,.inl Y,.inl O,P⟩,.inl g.self,b4,g.KQ,g.tQ⟩
 have a2:(ay H e).isSome=(ay b5.asked e).isSome:=by
  rcases N.ay e with⟨C,V⟩|⟨u,b6,C,V,_⟩<;>rw[C,V]<;>rfl
 have c6:∃h:Int,(ay H e).getD (QH 0)= QH h:=by
  rcases N.ay e with⟨C,V⟩|⟨u,b6,C,V,K⟩
  ·rw[C];exact⟨0,rfl⟩
  ·rw[C];exact⟨b6,K⟩
 obtain⟨k0,c7⟩:=c6;have no:b5.ends e s b3=false->Ok (λu t=>∃F',u= .bool (b5.ends e s b3)/\eG t a F' (b5.AP e s b3)/\de f b F' t) (.returned (.bool false)) k:=λl=>
  Ok.mk ⟨F',by rw[l],by unfold kr.AP;rw[l];exact c5,a1⟩
 have a3:∀y,b5.ends e s b3=true->cx y r (Value.int .i64) (bV H e)->aj (·=r) k y->y.heap.size=k.heap.size->
   Ok (λu t=>∃F',u= .bool (b5.ends e s b3)/\eG t a F' (b5.AP e s b3)/\de f b F' t) (.returned (.bool true)) y:=λy l hm F a5=>by
  obtain⟨d1,d2,c8⟩:∃m o,k.heap[r]? =some (.map m o):=by obtain⟨m,o,g,_⟩:=U.at';exact⟨m,o,g⟩
  refine Ok.mk ⟨F',by rw[l],?_,a1.keep.trans F (λ_ _ g=>g) (by rintro h _ rfl;exact Y),a1.new⟩;unfold kr.AP;rw[l];refine⟨⟨r,w,_,_,F.get T b8,hm,b0.keep F (Ne.symm P),N.bV,?_,.inl Y,.inl O,P⟩,.inl g.self,λh q=>by rw[a5];exact b4 h q,g.KQ.bV e,λa0 hq=>g.tQ a0 (gN hq)⟩;refine b2.mono λu ys K=>K.keep F (λh _ _ j=>?_) (λ_ g=>g);rintro rfl;obtain⟨c4,j,J⟩:=j;rw[c8]at j;cases j;exact J _ _ rfl
 refine⟨λt=>k=t/\b5.ends e s b3=true,⟨a,0,rfl,some r,ae T rfl,nw mA kI U ?_⟩,?_⟩
 rotate_left
 ·rintro _ _ ⟨rfl,l⟩
  exact⟨a,0,rfl,some r,ae T rfl,Mc mA kI U λy hm F a5=>a3 y l hm F a5⟩
 rw[c7];refine⟨k0,_,rfl,al.mk (λj=>?_) (λj=>al.mk (λh0=>al.mk (λz=>?_) (λz=>?_)) (λh0=>?_))⟩
 ·refine no ?_
  have:(ay b5.asked e).isSome=false:=by rw[<-a2];simpa using j
  simp[kr.ends,this]
 ·refine no ?_
  have x:(sk (b5.all e s) b3==0)=false:=by simpa[bne]using h0
  have L:(sk (b5.all e s) b3==2)=false:=by simpa[bne]using z
  simp[kr.ends,Iv,x,L]
 ·have l:b5.ends e s b3=true:=by
   have a4:(ay b5.asked e).isSome=true:=by rw[<-a2];simpa using j
   have L:(sk (b5.all e s) b3==2)=true:=by simpa[bne]using z
   simp[kr.ends,Iv,a4,L]
  exact⟨rfl,l⟩
 ·have l:b5.ends e s b3=true:=by
   have a4:(ay b5.asked e).isSome=true:=by rw[<-a2];simpa using j
   have L:(sk (b5.all e s) b3==0)=true:=by simpa[bne]using h0
   simp[kr.ends,Iv,a4,L]
  exact⟨rfl,l⟩
def kr.open(a:kr):List Int:=xq (a.asked.map (·.1))
def NB(k:eG b a f b5)(e:b5.asked.length*8<=aQ):
  Calls ZQ 168 #[ZX a] b (Ok (Ix b 3 b5.open)):=by
 obtain⟨l,E,q,F,r,s,H,g,I,J,K,L⟩:=k.body;refine qZ ⟨a,0,rfl,some l,ae r rfl,PC.ok (φ:=λt h=>t= .func (.func 289) #[] #[ZX b.heap.size]/\ai b h/\h.heap.size=b.heap.size+1/\
  h.heap[b.heap.size]? =some (.cells #[.map (some l)] 147 (0,0))) (ji (PA.mk λu c m i=>Ok.mk ⟨rfl,c,m,i⟩)) ?_⟩
 rintro _ u ⟨rfl,c,m,i⟩;have v:∀d∈q,aN d.1:=by
  intro d w;have:d.1∈b5.asked.map (·.1):=by rw[<-g.keys];exact Xk.2 ⟨d,w,rfl⟩
  obtain⟨x,j,y⟩:=Xk.1 this;rw[<-y];exact k.tQ x j
 refine⟨_,rfl,PC.ok (AQ (s.af c) v (by rw[g.length];exact e) i) ?_⟩;rintro _ M ⟨n,o,p,rfl,z,A,B⟩;refine⟨n,o,p,rfl,Ok.mk ⟨n,o,p,rfl,?_,c.af A,λC e=>by have:=B C e;omega⟩⟩;unfold kr.open;rw[<-g.keys];exact z
def Kt(e:eG b a f b5):
  Calls ZQ 63 #[ZX a] b (Ok λu m=>u= .tuple #[]/\eG m a f ⟨b5.dx,[],[]⟩/\aj f b m):=by
 obtain⟨h,i,E,F,g,n,o,H,I,p,q,k⟩:=e.body;obtain⟨c,d,r⟩:∃c d,b.heap[i]? =some (.map c d):=by obtain⟨c,d,e,_⟩:=o.at';exact⟨c,d,e⟩
 obtain⟨J,K,s⟩:∃c d,b.heap[h]? =some (.map c d):=by obtain⟨c,d,e,_⟩:=n.at';exact⟨c,d,e⟩
 have v:a≠i:=by rintro rfl;rw[g]at r;cases r
 have t:a≠h:=by rintro rfl;rw[g]at s;cases s
 refine qe ⟨a,0,rfl,some h,ae g rfl,Kf mA n λL w j x=>⟨a,0,rfl,some i,ae (j.get g t) rfl,Kf mH (o.keep j (Ne.symm k)) λM y l z=>Ok.mk ⟨rfl,
  ⟨⟨h,i,[],[],l.get (j.get g t) v,w.keep l k,y,trivial,trivial,p,q,k⟩,e.self,λA B=>by rw[z,x];exact e.aF A B,by simp[Tidy],sM⟩,?_⟩⟩⟩
 exact j.trans l (by rintro C _ rfl;exact p) (by rintro C _ rfl;exact q)
def gA(d b:Int)(c:List Int×List (Int×Int))(a:Int):List Int×List (Int×Int):=
 if IntKind.wrap .i64 (b-(ay c.2 a).getD 0)>=d then(c.1++[a],aJ c.2 a b)else c
def kr.jv(a:kr)(b:Int)(c:Nat):List Int×List (Int×Int):=(a.open.take c).foldl (gA a.dx b) ([],a.asked)
def kr.due(b:kr)(a:Int):List Int:=(b.jv a b.open.length).1
def kr.SV(a:kr)(b:Int):kr:={a with asked:=(a.jv b a.open.length).2}
def kr.NC(c:kr)(b:Int)(d:c.open[a]? =some e):c.jv b (a+1)=gA c.dx b (c.jv b a) e:=by
 unfold kr.jv;rw[Qw,d];simp
def QB(j:eG b a f b5)(d:b5.asked.length*8<=aQ):
  Calls ZQ 113 #[ZX a,QH e] b
   (Ok λL M=>∃N a4 a5,L= .slice N a4 a5/\Own M 3 1 N a4 a5 (ints (b5.due e))/\eG M a f (b5.SV e)/\aj f b M/\∀c,aI N=some c->b.heap.size<=c):=by
 refine tf (PC.ok (NB j d) ?_);rintro _ O ⟨B,m,lc,rfl,n,t,hn⟩;have b2:∀h∈b5.open,aN h:=by
  intro h C;have:h∈b5.asked.map (·.1):=(List.mergeSort_perm _ _).mem_iff.1 C;obtain⟨u,v,rfl⟩:=Xk.1 this;exact j.tQ u v
 have P:m=b5.open.length:=by have:=n.length;rw[jQ,Nat.mul_one]at this;exact this.symm
 have b3:b5.open.length=b5.asked.length:=by simp[kr.open,xq]
 have b4:m*8<=aQ:=by rw[P,b3];exact d
 have hL:Ints O B m b5.open:=n.ints b4 b2;have b6:pF f B:=dN.2 λc d Q=>by have:=hn c d;have:=j.aF c Q;omega
 unfold aQ at d;have d2:pF f none:=pF.none;refine⟨B,m,lc,rfl,λa6 w x R i o=>∃g:Nat,i=g/\g<=m/\a6=m-g/\Own o 3 1 w x R (ints (b5.jv e g).1)/\x<=g/\eG o a f {b5 with asked:=(b5.jv e g).2}/\aj f b o/\Ints o B m b5.open/\O.heap.size<=o.heap.size/\
   (∀c,aI w=some c->O.heap.size<=c),⟨_,0,rfl,Qj _,rfl,Own.nil _ _ _,Qj _,j.af t,t.keep,hL,Q4 _,by simp[aI]⟩,?_⟩
 rintro a6 w x R i _ o ⟨g,rfl,d3,rfl,S,d4,E,T,U,b7,q⟩;refine al.mk (λy=>?_) (λy=>?_)
 ·have y:=XV y
  obtain⟨c,V,h,rfl,d5,C,b8,hc⟩:=U.at (i:=(g:Int)) oM oM;rw[Qx]at C;have a7:=b5.NC e C;obtain⟨ra,rh,Yt,lh,t1,t2,t3,t4,t5,t6,t7,t8⟩:=E.body;refine⟨c,V,rfl,oM,oM,h,hc,a,0,rfl,some ra,ae t1 rfl,?_⟩;have b9:(ay Yt h).getD (QH 0)= QH ((ay (b5.jv e g).2 h).getD 0):=by
   rcases t4.ay h with⟨W,X⟩|⟨L,d6,W,X,Y⟩
   ·rw[W,X];rfl
   ·rw[W,X];exact Y
  refine⟨(ay (b5.jv e g).2 h).getD 0,λc0=>?_,a,0,rfl,b5.dx,ae t1 rfl,λw3 hd=>?_⟩
  ·have:=eY mA kI (t2.keep (aj.drewN (S:=λ_=>False) o c0) id) h false
   simpa[b9]using this
  have k:ai o w3:=hd.keep;refine al.mk (λp=>?_) (λp=>?_)
  ·have p:=XV p
   refine PA.mk λw4 r s4 g4=>?_;refine NQ Vy ((S.af k).af r) g4 (by unfold aQ at*;omega) λa' c' w5 a8 F K=>?_;refine⟨a',x+1,c',rfl,a,0,rfl,?_⟩;have c1:∀c,f c->¬(some c=aI w):=λc Q Z=>by have:=q c Z.symm;have:=j.aF c Q;have:=t.size;omega
   have z:eG w5 a f {b5 with asked:=(b5.jv e g).2}:=((E.af k).af r).keep F c1;obtain⟨l,a0,a9,a1,a2,b0,c2,c3,c4,a3,c5,b1⟩:=z.body;refine⟨some l,ae a2 rfl,jz mA kI b0 λw6 c6 s c7=>?_⟩;obtain⟨H,I,J⟩:∃H I,w5.heap[l]? =some (.map H I):=by obtain⟨H,I,j,_⟩:=b0.at';exact⟨H,I,j⟩
   have c8:a≠l:=by rintro rfl;rw[a2]at J;cases J
   have c9:eG w6 a f {b5 with asked:=aJ (b5.jv e g).2 h e}:=by
    refine⟨⟨l,a0,_,a1,s.get a2 c8,c6,c2.keep s (Ne.symm b1),fJ.aJ (R:=Zd) rfl c3,?_,a3,c5,b1⟩,z.self,λc d=>by rw[c7];exact z.aF c d,z.KQ.aJ _ _,?_⟩
    ·refine c4.mono λL ys Y=>Y.keep s (λu _ _ n=>?_) (λ_ j=>j)
     rintro rfl;obtain⟨d7,n,d0⟩:=n;rw[J]at n;cases n;exact d0 _ _ rfl
    ·intro u v
     rcases fG v with rfl|v
     ·exact b8
     ·exact z.tQ u v
   have A:b5.jv e (g+1)=((b5.jv e g).1++[h],aJ (b5.jv e g).2 h e):=by rw[a7];unfold gA;rw[if_pos p]
   have d1:∀c,aI a'=some c->c≠l:=λc d=>by
    rintro rfl;exact a8.VC J d
   refine⟨_,?_,g+1,?_,oM,rfl,?_,oM,by rw[A];exact c9,?_,?_,?_,?_⟩
   ·omega
   ·rw[wrap_i64 (by unfold aN;omega)];simp
   ·rw[A];exact a8.keep s (dN.2 d1)
   ·refine(((T.af k).af r).new F ?_).trans s (λ_ _ j=>j) (by rintro u _ rfl;exact a3)
    intro c d;right;have:=q c d.symm;have:=t.size;omega
   ·refine(((U.af k).af r).keep F (dN.2 λc d Z=>?_)).keep s (dN.2 λc d=>?_)
    ·have:=q c Z.symm;have:=n.lt d;omega
    ·rintro rfl;exact dN.1 b6 c d a3
   ·have:=k.size;have:=r.size;have:=F.size;omega
   ·intro c d
    rcases K with K|K
    ·exact q c (K▸d)
    ·rw[K]at d;cases d;have:=k.size;have:=r.size;omega
  ·have p:=Xy p
   have A:b5.jv e (g+1)=b5.jv e g:=by rw[a7];unfold gA;rw[if_neg p]
   refine⟨_,?_,g+1,?_,oM,rfl,by rw[A];exact S.af k,oM,by rw[A];exact E.af k,T.af k,U.af k,Xx b7 k.size,q⟩
   ·omega
   ·rw[wrap_i64 (by unfold aN;omega)];simp
 ·have y:=Xy y
  obtain rfl:g=m:=oM
  refine Ok.mk ⟨w,x,R,rfl,?_,?_,T,λc d=>Xx t.size (q c d)⟩
  ·unfold kr.due;rw[<-P];exact S
  ·unfold kr.SV;rw[<-P];exact E
structure cz where
 bl:Int
 nY:Int
 aZ:Int
 chunk:Int
 buffer:Int
 dx:Int
 every:Int
 start:Int
 decl:aR
structure bw where
 S:aq
 D:ak
 log:Option cY
 waits:List ah
 fP:kr
def gG(a:cz)(b:Int):Bool:=
 within a.bl 1 64&&within b 0 (a.bl-1)&&within a.nY 64 262144&&decide (a.aZ>=1)&&decide (a.every>=1)&&within a.chunk 1 32&&within a.buffer 1 256&&within a.dx 1 1048576&&decide (a.start>=0)
section
variable (c:cz) (self:Int)
def eR(b:bw):Int×bw:=
 let a:=aM b.D c.aZ
 if a.no≠0 then(a.no,{b with D:=a.D,log:=none,S:=⟨c.bl.toNat,[]⟩})
 else(0,{b with D:=a.D,log:=some a.V,S:=(⟨c.bl.toNat,[]⟩:aq).eI a.out})
def qA:Int×bw:=eR c ⟨⟨c.bl.toNat,[]⟩,eS c.nY.toNat,none,[],⟨c.dx,[],[]⟩⟩
def dZ(a:aq)(b:List ah):aq:=(⟨c.bl.toNat,[]⟩:aq).eI (a.l++b)
def bU(b:bw)(e:List ah):Int×bw:=match b.log with
 |none=>(15,b)
 |some f=>
  let a:=az f b.D e
  if a.1≠0 then(a.1,{b with log:=some a.2.1,D:=a.2.2})else
  let d:=a.2.2.sync a.2.1.last
  if d.1≠0 then(d.1,{b with log:=some a.2.1,D:=d.2})else
  (0,{b with log:=some a.2.1,D:=d.2,S:=dZ c b.S e})
def cm(a:bw)(e:jS):Int×(Int×Int)×bw:=match a.log with
 |none=>(15,(0,0),a)
 |some _=>
  let b:=kV c.decl a.S (cG c.decl a.S.l) self c.start e
  if b.2.2≠0 then(b.2.2,(0,0),a)else
  if b.2.1 then(let d:=bU c a [b.1];if d.1≠0 then(d.1,(0,0),d.2)else(0,aO b.1,d.2))
  else(0,aO b.1,a)
def gP(b:bw)(a d:Int):List dz×bw:=
 if a<0\/a>=c.bl\/a=self then([],b)else([lj b.S self a],{b with fP:={b.fP with asked:=aJ b.fP.asked a d}})
def KC(c:bw)(a:Int):List dz×bw:=((c.fP.due a).map λb=>lj c.S self b,{c with fP:=c.fP.SV a})
def dI(a:Nat):List ah->aq->List ah->List ah->aq×List ah×List ah
 |[],c,b,d=>(c,b,d)
 |e::f,c,b,d=>
  if(c.add e).1=0 then dI a f (c.add e).2 (b++[e]) d
  else if(c.add e).1=16 then dI a f c b d
  else dI a f c b (dQ a d e).2
def dP:List ah->aq->List ah->aq×List ah
 |[],b,a=>(b,a)
 |e::c,b,a=>if(b.add e).1=0 then dP c (b.add e).2 (a++[e])else dP c (b.add e).2 a
def kW:Nat->aq->List ah->List ah->List ah×List ah
 |0,c,a,d=>(a,d)
 |k+1,c,a,d=>
  let b:=bI c d
  if b.1=[]then(a,b.2)else
  let e:=dP b.1 c a
  kW k e.1 e.2 b.2
def fm(b:bw)(d:List ah):List ah×List ah:=
 let a:=dI c.buffer.toNat d (dZ c b.S []) [] b.waits
 kW (a.2.2.length+1) a.1 a.2.1 a.2.2
def ia(a:bw)(d:dz):List dz×Int×bw:=
 let e:=fm c a d.events
 let a:={a with waits:=e.2}
 if e.1=[]then([yN a.S self d.ck],0,a)else
 let b:=bU c a e.1
 if b.1≠0 then([],b.1,{b.2 with waits:=[]})else([yN b.2.S self d.ck],0,b.2)
def bA(a:bw)(b:dz):List dz×Int×bw:=match a.log with
 |none=>([],15,a)
 |some _=>
  let no:=dJ b c.bl.toNat c.chunk
  if no≠0 then([],no,a)else
  if b.qF≠self then([],1,a)else
  if b.kind=3 then ia c self a b else
  let a:={a with fP:=a.fP.AP b.ck b.vec a.S.vec}
  if b.kind≠4 then(mE a.S self b c.chunk,0,a)else
  let d:=a.S.missing b.vec c.chunk
  if d=[]then([],0,a)else([⟨3,self,b.ck,[],d⟩],0,a)
def iS(b:bw)(a:Int):Int×bw:=eR c {b with D:=dH (b.D.eA a),waits:=[],fP:=⟨b.fP.dx,[],[]⟩}
def eC(a:bw):Int×bw:=match a.log with
 |none=>(15,a)
 |some d=>
  let b:=aU d a.D a.S.l c.aZ
  if b.no≠0 then(b.no,{a with D:=b.D})else(0,{a with D:=b.D,log:=some b.V})
end
def EF:fS:=⟨[(3,[(23,QH 0)]),(7,[(32,QH 0)]),(15,[(75,QH 0)])],[],[17],[17],[(17,⟨[0,0,2,4,8,16,0,64,128,416,1023,2047,3071,5119],[16383,16383,16381,16379,16375,16367,16383,16319,16255,16095,16382,15359,14335,11775],[0,0,0,0,0,1,1,2,2,2,0,0,0,2]⟩)]⟩
def Eh{A B C D:Nat}(a0:PA b (.cells #[.slice d A B,.slice p C D] 25) λE=>(rS E (ab_ b (0+1)) λa7 a8 a9=>PC_ 131 #[.slice a7 a8 a9] E (kS_ λb0 b1 b2 a=>PA a (.cells #[.slice none 0 0,.slice b0 b1 b2,.ii (if e>1 then e else 1),.slice none 0 0,.pointer none,.slice none 0 0,.slice none 0 0] 222) λF=>(rS F (ab_ b 0) λb3 G g5=>(∃r:Nat->Int->World->Prop,(∃l,r l 0 F)/\∀(l:Nat) (i:Int) (g6:Nat->Value) (c:World),r l i c->al (decide (i<(G:Int))) ((ix_ b3 i G λb4 b5=>(rS c (ad b4 (b5+Int.toNat i)) λb6 b7 b8=>PA c (.cells #[.slice none 0 0] 130) λb9=>PS b9 (ab_ c 0) (.slice b6 b7 b8) λH=>(rS H (ab_ c 0) λc0 c1 c2=>PC_ 132 #[.slice c0 c1 c2] H (kS_ λs m c3 c4=>(∃u:Nat->Int->World->Prop,(∃n,u n 0 c4)/\∀(n:Nat) (f:Int) (g7:Nat->Value) (g:World),u n f g->al (decide (f<(m:Int))) ((ix_ s f m λc5 c6=>(rS g (ad c5 (c6+Int.toNat f*4+3)) λc7 c8 c9=>PC_ 130 #[.slice c7 c8 c9] g (kS_ λd0 d1 d2 d3=>(ix_ s f m λd4 d5=>PS d3 (ad d4 (d5+Int.toNat f*4+3)) (.slice d0 d1 d2) λd6=>(∃I,I<n/\u I (IntKind.wrap .i64 (f+1)) d6))) (pE t)))) ((∃J K,((some (ab_ a 0)):Option Addr)=some ⟨J,K,none⟩/\(rS g (ad J K) λd7 d8 d9=>PA g (.cells #[.slice s m c3] 130) λe0=>PR_ (ap_ 22 (.slice d7 d8 d9) (.slice (some (ab_ g 0)) 1 1)) e0 (kS_ λe1 e2 e3 e4=>(∃L M,((some (ab_ a 0)):Option Addr)=some ⟨L,M,none⟩/\PS e4 (ad L M) (.slice e1 e2 e3) λe5=>(∃N,N<l/\r N (IntKind.wrap .i64 (i+1)) e5))) (pV t)))))) (pE t))))) ((∃v w,((some (ab_ a 0)):Option Addr)=some ⟨v,w,none⟩/\(∃O P Q R S T,c.cell? (ad v w)=some (.slice O P Q)/\c.cell? (ad v (w+1))=some (.slice R S T)/\PC_ 78 #[.agg #[.slice O P Q,.slice R S T]] c (kP λe6 e7=>(∃U V,((some (ab_ a 0)):Option Addr)=some ⟨U,V,none⟩/\PS e7 (ad U (V+4)) (.pointer e6) λW=>(∃X Y,((some (ab_ a 0)):Option Addr)=some ⟨X,Y,none⟩/\(rS W (ad X (Y+1)) λe8 Z g8=>(∃x:Nat->Int->World->Prop,(∃o,x o 0 W)/\∀(o:Nat) (j:Int) (g9:Nat->Value) (h:World),x o j h->al (decide (j<(Z:Int))) ((ix_ e8 j Z λe9 f0=>(Ld 128 (ad e9 (f0+Int.toNat j*5)) h λf1=>PA h (.cells #[.ii 0,.ii 0,.ii 0,.ii 0,.ii 0] 128) λf2=>St 128 (ab_ h 0) f1 f2 λf3=>(∀k,bE f3 k->∃y:Nat->Prop,(∃z a2,((some (ab_ a 0)):Option Addr)=some ⟨z,a2,none⟩/\(¬y z/\(rS k (ad z (a2+4+1)) λf4 f5 f6=>(Ld 128 (ab_ h 0) k λf7=>PC_ 133 #[f7] k (kP λf8 q=>(aj y k q/\PA q (.cells #[.pointer f8] 224) λa3=>(aj y q a3/\PR_ (ap_ 217 (.slice f4 f5 f6) (.slice (some (ab_ q 0)) 1 1)) a3 (kS_ λf9 g0 g1 g2=>(∃a4 a5,((some (ab_ a 0)):Option Addr)=some ⟨a4,a5,none⟩/\PS g2 (ad a4 (a5+4+1)) (.slice f9 g0 g1) λg3=>(∃a6,a6<o/\x a6 (IntKind.wrap .i64 (j+1)) g3))) (pY t)))) (pZ t))))))))) (PC_ 134 #[.pointer (some (ab_ a 0))] h (k0_ λg4=>rt t ((.pointer (some (ab_ a 0)))) g4) (pE t))))))) (pE t))))))) (pE t))):Calls ZQ 73 #[.agg #[.slice d A B,.slice p C D],.ii e] b t:=DC EF Tryz.func73 rfl a0
def tB:fS:=⟨[],[],[],[],[(1,⟨[0,0,2,4,8,0,0,64,128,256,544,1040,4095,8191,12287],[32767,32767,32765,32763,32759,32767,32767,32703,32639,32511,32223,31727,32766,28671,22527],[0,0,0,0,1,0,0,0,0,1,0,0,0,0,2]⟩)]⟩
def sT(A:(dr d λB C=>(rI b (ad B (C+2)) λE=>PR_ (eq_ .quo 3 (.tmp 5) (.tmp 9) (.ii e) (.ii E)) b (kI_ λa D=>(∀c,bE D c->(dr d λF H=>(rS c (ad F (H+3)) λG a3 h=>(dr d λI J=>(rI c (ad I (J+2)) λg=>((0:Int)<=(IntKind.wrap .i64 (a*g))/\((IntKind.wrap .i64 (a*g)):Int)<=(h:Int)/\(dr d λK L=>PS c (ad K (L+3)) (.slice G (Int.toNat (IntKind.wrap .i64 (a*g))) h) λi=>(dr d λM N=>(rS i (ad M (N+6)) λO j k=>((0:Int)<=(IntKind.wrap .i64 (a+1))/\((IntKind.wrap .i64 (a+1)):Int)<=(j:Int)/\PR_ (Builtin.clear_ #[220] 0 #[.slice (cM O (Int.toNat (IntKind.wrap .i64 (a+1))) k 2) (j-Int.toNat (IntKind.wrap .i64 (a+1))) (k-Int.toNat (IntKind.wrap .i64 (a+1)))]) i (λa4 l=>(dr d λP Q=>(rS l (ad P (Q+6)) λR a5 m=>((0:Int)<=(IntKind.wrap .i64 (a+1))/\((IntKind.wrap .i64 (a+1)):Int)<=(m:Int)/\(dr d λS T=>PS l (ad S (T+6)) (.slice R (Int.toNat (IntKind.wrap .i64 (a+1))) m) λf=>(dr d λU V=>(rS f (ad U (V+6)) λW X a6=>(ix_ W a X λn o=>(∃p q r s,f.cell? (ad n (o+Int.toNat a*2))=some (.pointer p)/\f.cell? (ad n (o+Int.toNat a*2+1))=some (.slice q r s)/\PC_ 180 #[.pointer d,.agg #[.pointer p,.slice q r s]] f (λY Z=>∃u v w x,Y= .agg #[.pointer u,.slice v w x]/\(dr d λy z=>PS Z (ad y (z+4)) (.pointer u) λa1=>PS a1 (ad y (z+4+1)) (.slice v w x) λa2=>rt t ((.tuple #[])) a2)) (pE t)))))))))) (pV t)))))))))))) (pV t)))):Calls ZQ 143 #[.pointer d,.ii e] b t:=DC tB Tryz.func143 rfl A
def ED:fS:=⟨[],[],[],[],[]⟩
def EE(f:((0:Int)<=(if(a:Int)<(if 0>e then 0 else e)then(a:Int)else(if 0>e then 0 else e))/\((if(a:Int)<(if 0>e then 0 else e)then(a:Int)else(if 0>e then 0 else e)):Int)<=(if(a:Int)<(if 0>e then 0 else e)then(a:Int)else(if 0>e then 0 else e))/\((if(a:Int)<(if 0>e then 0 else e)then(a:Int)else(if 0>e then 0 else e)):Int)<=(c:Int)/\PC_ 227 #[.slice d (Int.toNat (if(a:Int)<(if 0>e then 0 else e)then(a:Int)else(if 0>e then 0 else e))) (Int.toNat (if(a:Int)<(if 0>e then 0 else e)then(a:Int)else(if 0>e then 0 else e)))] b (kS_ λg h i j=>rt t ((.tuple #[.slice g h i,.bool (decide (((if(a:Int)<(if 0>e then 0 else e)then(a:Int)else(if 0>e then 0 else e)):Int)<(a:Int)))])) j) (pE t))):Calls ZQ 165 #[.slice d a c,.ii e] b t:=DC ED Tryz.func165 rfl f
def Cb:fS:=⟨[(2,[(5,QH 0),(6,QH 0)])],[],[],[],[]⟩
def Cc(m:(∃g:Nat->Int->Int->World->Prop,(∃d,g d 0 e b)/\∀(d:Nat) (a:Int) (c:Int) (o:Nat->Value) (h:World),g d a c h->al (decide (a<c)) ((∃i j k,(.func (.func z) r X:Value)= .func (.func i) j k/\enters ZQ i=true/\PC_ i (j++ #[.ii (IntKind.wrap .i64 (iA .u64 (IntKind.wrap .u64 (IntKind.wrap .i64 (a+c))) 1))]++k) h (kB λn l=>al (!n) ((∃f,f<d/\g f (IntKind.wrap .i64 ((IntKind.wrap .i64 (iA .u64 (IntKind.wrap .u64 (IntKind.wrap .i64 (a+c))) 1))+1)) c l)) ((∃f,f<d/\g f a (IntKind.wrap .i64 (iA .u64 (IntKind.wrap .u64 (IntKind.wrap .i64 (a+c))) 1)) l))) (pE t))) (rt t ((.ii a)) h))):Calls ZQ 163 #[.ii e,.func (.func z) r X] b t:=DC Cb Tryz.func163 rfl m
def yp:fS:=⟨[(5,[(51,QH 0)])],[(4,[(6,.pointer (some ⟨0,0,none⟩)),(7,.pointer (some ⟨0,0,none⟩))]),(13,[])],[3,10,15,16],[],[(1,⟨[0,1,2,4,0,16,0,64,0,256,0,1024,2728,4096],[16383,16382,16381,16379,16383,16367,16383,16319,16383,16127,16383,15359,13655,12287],[0,0,0,1,0,1,0,1,0,1,0,1,2,0]⟩),(3,⟨[0,1,2,4,8,0,32,80,128,0,512,0,2048,5120,0,16384,40960,0,0,393727,1048575],[2097151,2097150,2097149,2097147,2097143,2097151,2097119,2097071,2097023,2097151,2096639,2097151,2095103,2092031,2097151,2080767,2056191,2097151,2097151,1965823,1769471],[0,0,0,0,1,0,1,0,1,0,1,0,1,0,0,1,0,2,2,2,2]⟩),(10,⟨[0,1,2,4,0,16,40,64,128,128,0,1535,4095],[8191,8190,8189,8187,8191,8175,8151,8127,8063,8063,8191,6911,7679],[0,0,0,1,0,1,1,0,0,0,2,2,0]⟩),(15,⟨[0,1,2,4,0,16,0,64,128,0,0,1024,0,4096,0,16384,0,65536,174592,262400,1048575],[2097151,2097150,2097149,2097147,2097151,2097135,2097151,2097087,2097023,2097151,2097151,2096127,2097151,2093055,2097151,2080767,2097151,2031615,1922559,1834751,1572823],[0,0,0,1,0,1,0,1,0,1,0,1,0,1,0,1,0,1,2,0,2]⟩),(16,⟨[0,1,2,4,0,0,32,127,128,448,128,2047],[4095,4094,4093,4091,4095,4095,4063,4071,3967,3775,3967,2551],[0,0,0,1,1,1,2,2,0,2,0,2]⟩)]⟩
def yq{Z a0 a1 a2 a3 a4 a5 a6 a7:Int}(a9:PA b (.cells #[.ii Z,.ii a0,.ii a1,.slice p a c,.ii a2,.ii a3,.ii a4,.ii a5,.ii a6,.ii a7] 59) λe=>PA e (.cells #[.ii 0,.ii 0] 39) λi9=>(∀l,bE i9 l->(dr d λb0 b1=>(∃b2 b3 b4 b5 b6 b7,l.cell? (ad b0 b1)=some (.slice b2 b3 b4)/\l.cell? (ad b0 (b1+1))=some (.slice b5 b6 b7)/\(rI l (ab_ b (0+4)) λj0=>(rI l (ab_ b (0+6)) λj1=>(rI l (ab_ b (0+7)) λj2=>(rI l (ab_ b (0+8)) λj3=>PC_ 151 #[.agg #[.slice b2 b3 b4,.slice b5 b6 b7],.ii j0,.ii j1,.ii j2,.ii j3] l (kI_ λj4 b8=>al (j4 !=0) ((∀B,bE b8 B->(∃b9 c0,B.cell? (ab_ e 0)=some (.ii b9)/\B.cell? (ab_ e (0+1))=some (.ii c0)/\PS B (ab_ e 0) (.ii b9) λj5=>PS j5 (ab_ e (0+1)) (.ii c0) λI=>(∃c1 c2,I.cell? (ab_ e 0)=some (.ii c1)/\I.cell? (ab_ e (0+1))=some (.ii c2)/\rt t ((.tuple #[.bool true,.agg #[.ii c1,.ii c2]])) I)))) ((∃G:Nat->Nat->Nat->Nat->World->Prop,((∀g,bE b8 g->∃h:Nat->Prop,(dr d λc3 j6=>(¬h c3/\(rS g (ad c3 j6) λj7 j8 q4=>(¬h b.heap.size/\(rI g (ab_ b (0+4)) λc4=>(ix_ j7 c4 j8 λc5 j9=>(¬h c5/\(rS g (ad c5 (j9+Int.toNat c4)) λc6 c7 c8=>(¬h b.heap.size/\(rI g (ab_ b (0+4)) λc9=>(¬h b.heap.size/\(rI g (ab_ b (0+5)) λd0=>(¬h b.heap.size/\(rI g (ab_ b (0+6)) λd1=>((PA g (.cells #[.slice none 0 0] 130) λu=>(aj h g u/\PA u (.cells #[.ii 0,.ii 0,.ii 0] 306) λJ=>(aj h u J/\PS J (ab_ g 0) (.slice c6 c7 c8) λK=>(aj h J K/\St 306 (ab_ u 0) (.agg #[.ii c9,.ii d0,.ii d1]) K λd2=>(aj h K d2/\G g.heap.size 0 u.heap.size 0 d2)))))/\(PA g (.cells #[.ii 0,.ii 0,.ii 0] 306) λv=>(aj h g v/\PA v (.cells #[.slice none 0 0] 130) λL=>(aj h v L/\PS L (ab_ v 0) (.slice c6 c7 c8) λM=>(aj h L M/\St 306 (ab_ g 0) (.agg #[.ii c9,.ii d0,.ii d1]) M λd3=>(aj h M d3/\G v.heap.size 0 g.heap.size 0 d3))))))))))))))))))))))/\∀(w:Nat) (x:Nat) (k:Nat) (n:Nat) (q5:Nat->Value) (r:World),G w x k n r->(dr d λk1 k2=>(rM r (ad k1 (k2+4)) λk3=>(Ld 306 (ad k n) r λk4=>(∃d4 N k5,(∀a8,(Instr.lookup 240 (.map k3) k4 false).run ZQ (r.drewN a8)= .ok (.slice d4 N k5) (r.drewN a8))/\(∀d5,bE r d5->(∃O:Nat->Int->World->Prop,(∃C,O C 0 d5)/\∀(C:Nat) (y:Int) (q6:Nat->Value) (m:World),O C y m->al (decide (y<(N:Int))) ((ix_ d4 y N λk6 k7=>(Ld 59 (ad k6 (k7+Int.toNat y*10)) m λk8=>PA m (.cells #[.ii 0,.ii 0,.ii 0,.slice none 0 0,.ii 0,.ii 0,.ii 0,.ii 0,.ii 0,.ii 0] 59) λk9=>St 59 (ab_ m 0) k8 k9 λl0=>(∀o,bE l0 o->(rS o (ad w x) λl1 l2 q7=>(rI o (ab_ b (0+6)) λd6=>(ix_ l1 d6 l2 λl3 l4=>(Ld 123 (ad l3 (l4+Int.toNat d6*4)) o λl5=>(Ld 59 (ab_ m 0) o λl6=>(Ld 59 (ab_ b 0) o λl7=>PC_ 203 #[l5,l6,l7] o (kB λl8 d7=>al l8 ((∀E,bE d7 E->(∃d8 d9,E.cell? (ab_ m 0)=some (.ii d8)/\E.cell? (ab_ m (0+1))=some (.ii d9)/\PS E (ab_ e 0) (.ii d8) λl9=>PS l9 (ab_ e (0+1)) (.ii d9) λP=>(∃e0 e1,P.cell? (ab_ e 0)=some (.ii e0)/\P.cell? (ab_ e (0+1))=some (.ii e1)/\rt t ((.tuple #[.bool true,.agg #[.ii e0,.ii e1]])) P)))) ((∃e2,e2<C/\O e2 (IntKind.wrap .i64 (y+1)) d7))) (pZ t))))))))))) ((∀i,bE m i->∃z:Nat->Prop,(dr d λe6 m0=>(¬z e6/\(rM i (ad e6 (m0+3)) λm1=>(¬z k/\(∃f0 f1,i.cell? (ad k n)=some (.ii f0)/\i.cell? (ad k (n+1))=some (.ii f1)/\(∃f2 f3 f4 f5 f6,(∀Q,aj z i Q->(Instr.lookup 239 (.map m1) (.agg #[.ii f0,.ii f1]) true).run ZQ Q= .ok (.tuple #[.agg #[.ii f2,.slice f3 f4 f5],.bool f6]) Q)/\PA i (.cells #[.ii 0,.slice none 0 0] 42) λR=>(aj z i R/\PS R (ab_ i 0) (.ii f2) λm2=>PS m2 (ab_ i (0+1)) (.slice f3 f4 f5) λF=>(aj z R F/\(∃S:World->Prop,(al (!f6) ((rS F (ad w x) λm3 m4 m5=>PC_ 85 #[.agg #[.slice m3 m4 m5]] F (kS_ λm6 m7 m8 m9=>PS m9 (ab_ i (0+1)) (.slice m6 m7 m8) λn0=>S n0) (pE t))) (S F))/\∀(q8:Nat->Value) (q:World),S q->(rS q (ad w x) λn1 n2 n3=>(rS q (ab_ i (0+1)) λn4 n5 n6=>(rI q (ab_ b (0+6)) λn7=>(rI q (ab_ b (0+7)) λn8=>(rI q (ab_ b (0+8)) λn9=>PC_ 88 #[.agg #[.slice n1 n2 n3],.slice n4 n5 n6,.ii n7,.ii n8,.ii n9] q (kI_ λo0 f7=>al (o0 !=0) ((∀D,bE f7 D->(∃f8 f9,D.cell? (ab_ e 0)=some (.ii f8)/\D.cell? (ab_ e (0+1))=some (.ii f9)/\PS D (ab_ e 0) (.ii f8) λo1=>PS o1 (ab_ e (0+1)) (.ii f9) λT=>(∃g0 g1,T.cell? (ab_ e 0)=some (.ii g0)/\T.cell? (ab_ e (0+1))=some (.ii g1)/\rt t ((.tuple #[.bool true,.agg #[.ii g0,.ii g1]])) T)))) ((∀j,bE f7 j->∃A:Nat->Prop,(dr d λg2 o2=>(¬A g2/\(rM j (ad g2 (o2+3)) λo3=>(¬A k/\(∃g3 g4,j.cell? (ad k n)=some (.ii g3)/\j.cell? (ad k (n+1))=some (.ii g4)/\(¬A i.heap.size/\(rI j (ab_ i 0) λo4=>(rS j (ad w x) λo5 o6 o7=>(rS j (ab_ i (0+1)) λo8 o9 p0=>(rI j (ab_ b (0+6)) λp1=>(rI j (ab_ b (0+7)) λp2=>(rI j (ab_ b (0+8)) λp3=>PC_ 204 #[.agg #[.slice o5 o6 o7],.slice o8 o9 p0,.ii p1,.ii p2,.ii p3] j (kS_ λp4 p5 p6 U=>(aj A j U/\jU ZQ (Instr.mapUpdate 239 (.map o3) (.agg #[.ii g3,.ii g4]) (.agg #[.ii (IntKind.wrap .i64 (o4+1)),.slice p4 p5 p6])) U (λg5=>(aj A U g5/\(∀f,bE g5 f->∃s:Nat->Prop,(dr d λg6 p7=>(¬s g6/\(rM f (ad g6 (p7+4)) λg7=>(¬s k/\(Ld 306 (ad k n) f λp8=>(∃g8 g9 h0 h1 h2 h3 h4 h5 h6 h7 h8 h9,f.cell? (ab_ b 0)=some (.ii g8)/\f.cell? (ab_ b (0+1))=some (.ii g9)/\f.cell? (ab_ b (0+2))=some (.ii h0)/\f.cell? (ab_ b (0+3))=some (.slice h1 h2 h3)/\f.cell? (ab_ b (0+4))=some (.ii h4)/\f.cell? (ab_ b (0+5))=some (.ii h5)/\f.cell? (ab_ b (0+6))=some (.ii h6)/\f.cell? (ab_ b (0+7))=some (.ii h7)/\f.cell? (ab_ b (0+8))=some (.ii h8)/\f.cell? (ab_ b (0+9))=some (.ii h9)/\PA f (.cells #[.ii g8,.ii g9,.ii h0,.slice h1 h2 h3,.ii h4,.ii h5,.ii h6,.ii h7,.ii h8,.ii h9] 59) λV=>(aj s f V/\PR_ (Instr.mapEntry 240 (.map g7) p8) V (λp9 W=>∃i0 i1 i2 i3,p9= .tuple #[.slice i0 i1 i2,.ii i3]/\(aj s V W/\PR_ (ap_ 50 (.slice i0 i1 i2) (.slice (some (ab_ f 0)) 1 1)) W (kS_ λq0 q1 q2 X=>(aj s W X/\jU ZQ (Instr.entryStore 240 (.map g7) (.ii i3) (.slice q0 q1 q2)) X (λi4=>(aj s X i4/\(∀H,bE i4 H->(∃i5 i6,H.cell? (ab_ e 0)=some (.ii i5)/\H.cell? (ab_ e (0+1))=some (.ii i6)/\PS H (ab_ e 0) (.ii i5) λq3=>PS q3 (ab_ e (0+1)) (.ii i6) λY=>(∃i7 i8,Y.cell? (ab_ e 0)=some (.ii i7)/\Y.cell? (ab_ e (0+1))=some (.ii i8)/\rt t ((.tuple #[.bool false,.agg #[.ii i7,.ii i8]])) Y))))) (pY t))) (pY t))) (pY t))))))))))) (pY t))) (pZ t)))))))))))))))) (pE t)))))))))))))))))))))))))) (pZ t))))))))):Calls ZQ 146 #[.pointer d,.agg #[.ii Z,.ii a0,.ii a1,.slice p a c,.ii a2,.ii a3,.ii a4,.ii a5,.ii a6,.ii a7]] b t:=DC yp Tryz.func146 rfl a9
def jE:fS:=⟨[(3,[(7,QH 0),(8,QH 0)])],[],[],[],[]⟩
def jy(n:(∃k:Nat->Int->Int->World->Prop,(∃i,k i 0 (a:Int) b)/\∀(i:Nat) (f:Int) (g:Int) (C:Nat->Value) (h:World),k i f g h->al (decide (f<g)) ((dr d λo p=>(0:Int)<=(IntKind.wrap .i64 (iA .u64 (IntKind.wrap .u64 (IntKind.wrap .i64 (f+g))) 1))/\(IntKind.wrap .i64 (iA .u64 (IntKind.wrap .u64 (IntKind.wrap .i64 (f+g))) 1))<(a:Int)/\(rI h (ad o (p+Int.toNat (IntKind.wrap .i64 (iA .u64 (IntKind.wrap .u64 (IntKind.wrap .i64 (f+g))) 1)))) λq=>PC_ 311 #[.ii q,.ii e] h (kB λr l=>al r ((∃j,j<i/\k j (IntKind.wrap .i64 ((IntKind.wrap .i64 (iA .u64 (IntKind.wrap .u64 (IntKind.wrap .i64 (f+g))) 1))+1)) g l)) ((∃j,j<i/\k j f (IntKind.wrap .i64 (iA .u64 (IntKind.wrap .u64 (IntKind.wrap .i64 (f+g))) 1)) l))) (pE t)))) (al (decide (f<(a:Int))) ((ix_ d f a λs u=>(rI h (ad s (u+Int.toNat f)) λv=>al (v==e) (rt t ((.tuple #[.ii f,.bool true])) h) ((ix_ d f a λw x=>(rI h (ad w (x+Int.toNat f)) λy=>PC_ 312 #[.ii y] h (kB λz m=>al z (PC_ 312 #[.ii e] m (kB λA B=>rt t ((.tuple #[.ii f,.bool A])) B) (pE t)) (rt t ((.tuple #[.ii f,.bool false])) m)) (pE t))))))) (rt t ((.tuple #[.ii f,.bool false])) h)))):Calls ZQ 279 #[.slice d a c,.ii e] b t:=DC jE Tryz.func279 rfl n
def ql:fS:=⟨[],[],[],[],[]⟩
def qm{g:Int}(l:PA b (.cells #[QH e,QH m,QH C,.slice d a c,QH V,QH b1,QH b6,QH b7,QH b8,QH g] 59) λf=>
   (∃(h:Int),f.cell? ⟨i,n,none⟩=some (QH h)/\al ((h:Int) !=0) ((∃(j:Int),f.cell? ⟨b.heap.size,0+9,none⟩=some (QH j)/\
   (∃(k:Int),f.cell? ⟨i,n,none⟩=some (QH k)/\t (.returned (.bool ((j:Int)==k))) f))) (t (.returned (.bool false)) f))):
  Calls ZQ 152 #[.agg #[QH e,QH m,QH C,.slice d a c,QH V,QH b1,QH b6,QH b7,QH b8,QH g],.pointer (some ⟨i,n,none⟩)] b t:=
 gl ql mixed Tryz.func152 rfl (Nat.le_of_ble_eq_true kR) kR (Eq.mp kR l)
def qv:fS:=⟨[],[],[],[],[]⟩
def qw(i:PA b (.cells #[.slice p a c] 55) λj=>PC ZQ 80 #[.pointer d,.func (.func 111) #[] #[ZX b.heap.size]] j (λk l=>
   ∃(h:Option Addr) (f:Nat) (g:Nat),k= .slice h f g/\((0:Int)<=(if(if e>0 then e else 0)<((f:Nat):Int)then(if e>0 then e else 0)else((f:Nat):Int))/\
   ((if(if e>0 then e else 0)<((f:Nat):Int)then(if e>0 then e else 0)else((f:Nat):Int)):Int)<=((g:Nat):Int)/\
   t (.returned (.slice h (Int.toNat (if(if e>0 then e else 0)<((f:Nat):Int)then(if e>0 then e else 0)else((f:Nat):Int))) g)) l)) (λm b=>
   t (.panicked m) b)):
  Calls ZQ 55 #[.pointer d,.slice p a c,QH e] b t:=
 gl qv mixed Tryz.func55 rfl (Nat.le_of_ble_eq_true kR) kR (Eq.mp kR i)
def tE:fS:=⟨[],[],[],[],[]⟩
def tF(l:PA b (.cells #[QH e] 3) λa=>PA a (.cells #[QH 0,QH 0,QH 0,.slice none 0 0,QH 0,QH 0,QH 0,QH 0,QH 0,QH 0] 59) λm=>
   PC ZQ 80 #[.pointer d,.func (.func 152) #[] #[ZX b.heap.size]] m (λn c=>∃(g:Option Addr) (f:Nat) (o:Nat),n= .slice g f o/\
   al ((((f:Nat):Int):Int)==0) (xJ ZQ 59 (ZX a.heap.size) (.agg #[QH 0,QH 0,QH 0,.slice none 0 0,QH 0,QH 0,QH 0,QH 0,QH 0,QH 0]) c λh=>
   (ow ZQ 59 (ZX a.heap.size) h λp=>t (.returned (.tuple #[p,.bool false])) h)) ((∃i j,g=some ⟨i,j,none⟩/\
   (0:Int)<=0/\0<((f:Nat):Int)/\(ow ZQ 59 (.pointer (some ⟨i,j+Int.toNat 0*10,none⟩)) c λq=>xJ ZQ 59 (ZX a.heap.size) q c λk=>
   (ow ZQ 59 (ZX a.heap.size) k λr=>t (.returned (.tuple #[r,.bool true])) k))))) (λs b=>t (.panicked s) b)):
  Calls ZQ 83 #[.pointer d,QH e] b t:=
 gl tE mixed Tryz.func83 rfl (Nat.le_of_ble_eq_true kR) kR (Eq.mp kR l)
def nJ:fS:=⟨[],[],[1],[],[(1,⟨[0,1,2,0,0,16,32,72,128,260,1023],[2047,2046,2045,2047,2047,2031,2015,1975,1919,1787,1535],[0,0,1,1,0,0,1,2,0,0,0]⟩)]⟩
def nK{j:Int}(u:PA b (.cells #[QH e,QH m,QH C,.slice d a c,QH V,QH b1,QH b6,QH b7,QH b8,QH j] 59) λv=>
   (∀f,bE v f->∃k:Nat->Prop,(¬k b.heap.size/\(∃(l:Int),f.cell? ⟨b.heap.size,0+1,none⟩=some (QH l)/\(∃(o:Option Addr) (p:Nat) (q:Nat),f.cell? ⟨i,n,none⟩=some (.slice o p q)/\
   (∃(r:Int),f.cell? ⟨b.heap.size,0,none⟩=some (QH r)/\PC ZQ 112 #[.slice o p q,QH r] f (λw s=>
   ∃(g:Int),w= QH g/\(aj k f s/\t (.returned (.bool (decide ((l:Int)>(if g>0 then g else 0))))) s)) (λx h=>
   ∀(_:cy) (_:dq),t (.panicked x) h))))))):
  Calls ZQ 111 #[.agg #[QH e,QH m,QH C,.slice d a c,QH V,QH b1,QH b6,QH b7,QH b8,QH j],.pointer (some ⟨i,n,none⟩)] b t:=
 gl nJ mixed Tryz.func111 rfl (Nat.le_of_ble_eq_true kR) kR (Eq.mp kR u)
end Go.Proofs.YtfchlbaidamodaaGreatDoor

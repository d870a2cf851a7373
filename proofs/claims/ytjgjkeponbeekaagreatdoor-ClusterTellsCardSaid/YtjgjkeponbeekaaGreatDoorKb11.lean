import Derived.Test.YtjgjkeponbeekaaGreatDoorKb10
import Derived.StringKeys
import Derived.Lib.AppendIntMem
import Derived.Laws.Concat
import Derived.Shelf.SlSortCmp.WholeK
import Derived.Shelf.SlMaps.Clone
import Derived.Ground.SlsfProg
import Derived.Ground.SlmcProg
import Derived.Shelf.SlGeneric
import Derived.Shelf.SlSortCmp.NoneTotal
import Derived.Laws.StructEq
import Derived.Carry
import Derived.SizedLaws
import Derived.WalkKit
import Derived.ProofKit
import Derived.OpenShut
import Derived.Deep.DeepHandedRow
import Derived.Deep.Slices
set_option linter.all false
set_option maxRecDepth 100000
open Go.IntKind renaming wrap→GT
namespace Go.Proofs.YtjgjkeponbeekaaGreatDoor
open Go.ar
end Go.Proofs.YtjgjkeponbeekaaGreatDoor
namespace Go.Proofs
open Go.RowKit Go.Maps Go.Sort Go.Shelf
def Tryz.Wr(b:Nat):AnyZ.SortsIn Tryz.prog Tryz.yK Fence.wide b:=
 ⟨λaG P n c a d e f=>callsIn_wide.2 (AnyM.slices_Sort_string Tryz.VB aG P n c a d e f),
  λg n a=>callsIn_wide.2 (AnyM.slices_Sort_string_none Tryz.VB g n a)⟩
end Go.Proofs
namespace Go.Proofs.YtjgjkeponbeekaaGreatDoor
section
open Go.ar
open Go.RowKit Go.Maps Go.Sort Go.Shelf
def leS(n P:ByteArray):Bool:=decide (n.data.toList<=P.data.toList)
def tC(n:List ByteArray):List ByteArray:=n.mergeSort leS
def Pj(P:List ByteArray):(tC P).map (λn=>n.data.toList)=(P.map λn=>n.data.toList).mergeSort (λn a=>decide (n<=a)):=
 List.map_mergeSort (λb _ c _=>rfl)
def bL.VC{a:Type}{n:a->Value}{b:a->Prop}{hl h1}{d:World}{D:RK}:∀{P:List a},(∀x∈P,b x)->bL (flat 1 (λx=>[n x]) b hl h1) d D P (P.map n)
 |[],_=>rfl
 |x::P,c=>⟨[n x],P.map n,rfl,⟨rfl,c x (QV ..)⟩,bL.VC λe f=>c e (QJ _ f)⟩
variable{g1:List (ByteArray×Value)}{a c:Nat}{F:Nat×Nat}{g:TypeId}{b:World}
def Ao(i:bV b a Value.string g1)(I:∀f∈g1,f.1.size<=maxLen)(y:g1.length*16<=aR)(z:b.heap[c]? =some (.cells #[.map (some a)] g F)):
  ba 222 #[.func (.func 282) #[] #[LL c]] b
   (Ok (qI Pk 9 b (tC (g1.map (·.1))))):=by
 unfold aR at y;obtain⟨d,h,J,p,K,L⟩:=i.at';have M:Tryz.prog.underlying 9=some .string:=Tryz.underlying9;have N:d.size=g1.length:=by have:=Zj List.length p;simpa using this
 have A:∀P∈d.toList,∃n:ByteArray,P.key=Value.string n/\n.size<=maxLen:=λP e=>by
  have O:(P.key,P.val)∈g1.map (λf=>(Value.string f.1,f.2)):=by rw[<-p];exact Xk.2 ⟨P,e,rfl⟩
  obtain⟨f,Q,R⟩:=Xk.1 O;exact⟨f.1,(Prod.mk.inj R).1.symm,I f Q⟩
 have B:∀P∈d.toList,∀n:ByteArray,P.key=Value.string n->n.size<=maxLen->WideElems.rd PP 9 (λ_=>some ((.nil:DataW Unit),[])) P=some (.string n.data.toList,.nil):=λP _ n k m=>by
  simp[WideElems.rd,k,Go.WideMaps.keyOf_string_mk M m]
 have S:WideElems.Fit PP 9 (λ_=>some ((.nil:DataW Unit),[])) d h:=by
  refine⟨by unfold maxLen;omega,⟨K,L,?_⟩,λP e=>?_⟩
  ·have:d.toList.map (·.key)=(g1.map (·.1)).map Value.string:=by
    have:=Zj (List.map (λs:Value×Value=>s.1)) p;simpa[Function.comp_def]using this
   rw[this];exact List.pairwise_map.2 (List.Pairwise.imp (λT=>by simpa using T) i.tidy)
  ·obtain⟨n,k,m⟩:=A P e
   exact⟨_,B P e n k m⟩
 have U:b.ownsMap PP 9 (λ_=>some ((.nil:DataW Unit),[])) a d.size (.map ((d.toList.map (WideElems.rg PP 9 (λ_=>some ((.nil:DataW Unit),[])))).foldr DataW.insert [])):=
  ⟨d,h,J,S,Q4 _,rfl⟩
 have C:Maps.size (.map ((d.toList.map (WideElems.rg PP 9 (λ_=>some ((.nil:DataW Unit),[])))).foldr DataW.insert []))=g1.length:=by
  show(List.foldr DataW.insert [] _).length=_;rw[(WideShapes.sorted_perm _).length_eq];simp[N]
 have V:(strKeys (.map ((d.toList.map (WideElems.rg PP 9 (λ_=>some ((.nil:DataW Unit),[])))).foldr DataW.insert []))).Perm ((g1.map (·.1)).map λn=>n.data.toList):=by
  refine(List.Perm.map (λf:Lit×DataW Unit=>Go.strOf f.1) (WideShapes.sorted_perm _)).trans ?_;have:(d.toList.map (WideElems.rg PP 9 (λ_=>some ((.nil:DataW Unit),[])))).map (λf=>Go.strOf f.1)=(g1.map (·.1)).map λn=>n.data.toList:=by
   have W:d.toList.map (λP=>match P.key with| .string n=>n.data.toList|_=>[])=(g1.map (·.1)).map λn=>n.data.toList:=by
    have:=Zj (List.map (λs:Value×Value=>match s.1 with| .string n=>n.data.toList|_=>[])) p;simpa[Function.comp_def]using this
   rw[<-W,List.map_map];refine List.map_congr_left λP e=>?_;obtain⟨n,k,m⟩:=A P e;simp[WideElems.rg,B P e n k m,k,Go.strOf]
  rw[this]
 have X:SeqGives Fence.wide 1 PP 282 #[LL c] encStr (λl=>l.Perm (strKeys _)) (Maps.size _) b:=
  AnyZ.keys_gives (ρ:=Tryz.ET) {Tryz.tD with} Fence.wide _ trivial rfl oM c a d.size _ b (aA z) (ae z rfl) U
 have Y:=AnyZ.sorted_in Tryz.Ut Fence.wide 4 trivial trivial trivial trivial rfl oM (Tryz.Wr _) (enters_of Tryz.func281 kR rfl) 282 #[LL c] trivial
  (enters_of Tryz.func282 kR rfl) _ _ (by rw[C];unfold maxLen;omega) (by rw[C];exact y) b X
 refine((callsIn_wide (n:=4)).1 Y).mono ?_;rintro P Z ⟨a0,l,rfl,hS,q,a7,t⟩;have E:l.mergeSort (λn u=>decide (n<=u))=(tC (g1.map (·.1))).map λn=>n.data.toList:=by rw[Pj];exact Go.mergeSort_of_perm (hS.trans V)
 have a8:l.length=(tC (g1.map (·.1))).length:=by
  have:=Zj List.length E;simpa using this
 have a1:((l.mergeSort (λn u=>decide (n<=u))).map encStr)=(tC (g1.map (·.1))).map Value.string:=by
  rw[E,List.map_map];refine List.map_congr_left λn _=>?_;show Value.string ⟨n.data.toList.toArray⟩=Value.string n;simp
 rw[a1]at q;have hv:∃o v,a0= .slice o l.length v:=by
  rcases q.2 with⟨rfl,h0⟩|⟨g',w,x,rfl,_⟩
  ·exact⟨none,0,by rw[h0]⟩
  ·exact⟨_,_,rfl⟩
 obtain⟨o,v,rfl⟩:=hv;have H:∀j,aG o=some j->b.heap.size<=j/\j<Z.heap.size:=λj r=>by
  rcases q.2 with⟨e,_⟩|⟨g',w,x,e,a9,a6,_⟩
  ·simp only[XX]at e
   rw[e.1]at r;cases r
  ·simp only[XX]at e
   rw[e.1]at r;simp only[aG,Q1]at r;have:=aA a6;omega
 exact Ok.mk ⟨o,_,v,λj=>aG o=some j,rfl,⟨⟨_,λ_=>False,⟨ownsRow_base_a q (Qj _)⟩,bL.VC (λ_ _=>trivial),λ_ i=>i.elim⟩,λ_ i=>i,λj i=>(H j i).2⟩,aj.Ik t,λj i=>(H j i).1⟩
end
section
open Go.ar
def kS:jm PP 9 Value.string:=ZI Tryz.underlying9
def mF:mP PP 141 9 236 (.pointer none):=⟨kR,kR⟩
def uF:Tryz.prog.underlying 236=some (.pointer 239):=kR
def ak.room(D:ak):Int:=(D.most:Int)-D.used
def ak.op(D:ak)(n:ak->Int×ak):Int×ak:=if D.dies then(15,D.gone)else n D.cR
def ak.yJ(P:ByteArray)(n:ak->bQ->Int×ak)(D:ak):Int×ak:=match an D.files P with
 |none=>(14,D)
 |some a=>n D a
def ak.create(D:ak)(n:ByteArray):Int×ak:=D.op λD=>if cT n then(if(an D.files n).isSome then(16,D)else if 64<=D.files.length then(12,D)else(0,D.fv n ⟨[],0,false⟩))else(1,D)
def ak.append(D:ak)(n:ByteArray)(P:List UInt8):Int×ak:=D.op (ak.yJ n λD a=>if(P.length:Int)>D.room then(12,D)else(0,D.fv n {a with bytes:=a.bytes++P}))
def ak.sync(D:ak)(n:ByteArray):Int×ak:=D.op (ak.yJ n λD P=>(0,D.fv n (P.cut P.bytes.length)))
def ak.og(D:ak)(k:ByteArray)(n:Int):Int×ak:=D.op (ak.yJ k λD P=>(0,D.fv k (P.cut n)))
def ak.delete(D:ak)(n:ByteArray):Int×ak:=D.op (ak.yJ n λD P=>(0,D.vY n))
def ak.rename(D:ak)(n P:ByteArray):Int×ak:=D.op (ak.yJ n λD a=>if cT P then(0,(D.vY n).fv P {a with jN:=true})else(1,D))
def ak.read(D:ak)(k:ByteArray):List UInt8×Int:=if D.dead then([],15)else match an D.files k with
 |none=>([],14)
 |some n=>(n.bytes,0)
def ak.list(D:ak):List ByteArray:=tC (D.files.map (·.1))
def dV(D:ak):D.cR.files=D.files:=by unfold ak.cR;split<;>rfl
def v_(b:World)(c:Nat)(d:RK)(n:Int×ak)(e:Value)(P:World):Prop:=∃a,e= WP n.1/\aV P c a n.2/\cy d b a P
variable{Z p:Array Value}{y:ByteArray}{e:Int}{d7:Int×ak}{g1 h4:List (ByteArray×Value)}{a3:List (ByteArray×om)}{w:List UInt8}{a c i:Nat}{a5 f:RK}{d:am}{j:Type}{x:Value}{b k:World}{z:ac}{X:bQ}
def v_.same{D:ak}(n:aV k a f D)(P:aj f b k):v_ b a f (e,D) (WP e) k:=⟨f,rfl,n,P,λ_ n=>.inl n⟩
def NL{D:ak}(P:aV b a f D){g:FuncId}{body:ak->Int×ak}(c:enters PP g=true)(d:D.dies=false->∀n,aV n a f D.cR->aj f b n->ba g (p++ #[]++Z) n (Ok (v_ n a f (body D.cR)))):
  ba 233 #[LL a,.func (.func g) p Z] b (Ok (v_ b a f (D.op body))):=by
 refine Calls.ok (Mj P (e:=(body D.cR).1) (D':=(body D.cR).2) c λe n h i m=>d e n h i) ?_;rintro o q ⟨j,k,r,l⟩;refine⟨j,?_,?_,l⟩
 ·rw[k];unfold ak.op;split<;>rfl
 ·unfold ak.op;split<;>simp_all
def wh{D:ak}(d:aV b a f D){k:ByteArray}{g:FuncId}{body:ak->bQ->Int×ak}(C:enters PP g=true)(E:D.dies=false->∀e j l n,fA e a f D.cR j l->an l k=some n->aj f b e->ba g (p++ #[ptr n.q]++Z) e (Ok (v_ e a f (body D.cR n.f)))):
  ba 210 #[LL a,.string k,.func (.func g) p Z] b (Ok (v_ b a f (D.op (ak.yJ k body)))):=by
 refine Ae (PA.mk λe F V z=>PA.mk λH r W I=>PA.mk λA m X J=>?_);have s:ai b A:=(F.af r).af m;have K:=d.af s;have t:=d.aF;refine⟨_,ae (m.get (r.get z id) id) rfl,PC.ok (NL K (body:=ak.yJ k body) kR λL P B o=>?_) ?_⟩
 ·obtain⟨j,l,h⟩:=B.open
  have M:P.heap[b.heap.size]? =_:=o.get (m.get (r.get z id) id) (λi=>by have:=t _ i;omega);have N:P.heap[e.heap.size]? =_:=o.get (m.get I id) (λi=>by have:=t _ i;omega);have O:P.heap[H.heap.size]? =_:=o.get J (λi=>by have:=t _ i;omega);refine vO ⟨_,ae M rfl,a,0,rfl,some j,ae h.head rfl,_,ae N rfl,?_⟩;rcases h.box k with⟨u,v⟩|⟨n,Q,Y,u,v⟩
  ·refine⟨none,λw=>?_,λq c=>?_⟩
   ·have:=eN mF kS (h.map.keep (aj.drewN (S:=λ_=>False) P w) id) k false
    simpa[v]using this
   ·refine AX uF ⟨_,rfl,al.ff rfl (Ok.mk ?_)⟩
    have:ak.yJ k body D.cR=(14,D.cR):=by unfold ak.yJ;rw[u]
    rw[this];exact v_.same (B.af c.keep) c.keep
  ·refine⟨L1 n.q,λw=>?_,λq c=>?_⟩
   ·have:=eN mF kS (h.map.keep (aj.drewN (S:=λ_=>False) P w) id) k false
    simpa[v,ptr]using this
   ·refine AX uF ⟨_,rfl,al.tt rfl ⟨_,ae (c.keep (S:=λ_=>False)|>.get O id) rfl,g,p,Z,rfl,C,?_⟩⟩
    have R:aj f b q:=((s.keep (S:=f)).then o).af c.keep;refine PC.ok (E L q j l n (h.af c.keep) Q R) ?_;rintro S w6 ⟨x,rfl,T,y⟩;have:ak.yJ k body D.cR=body D.cR n.f:=by unfold ak.yJ;rw[u]
    refine⟨_,rfl,Ok.mk ?_⟩;rw[this];exact⟨x,rfl,T,(cy.mk c.keep λ_ d=>.inl d:cy f P f q).trans y⟩
 ·rintro S P ⟨x,rfl,U,y⟩
  exact⟨_,rfl,Ok.mk ⟨x,rfl,U,(cy.mk s.keep λ_ d=>.inl d:cy f b f A).trans y⟩⟩
def ak.Ok.set{D:ak}(n:D.Ok){b P:bQ}(a:an D.files y=some b)(c:P.bytes.length+D.used<=b.bytes.length+D.most)(d:P.synced<=P.bytes.length):(D.fv y P).Ok:=by
 have e:=cx a;refine⟨n.most,?_,?_,n.tidy.aJ _ _,?_,?_,n.Ca,n.Cb⟩
 ·have:=yL (l:=D.files) (k:=y) (f:=P)
  rw[a]at this;simp only[Option.map_some,Option.getD_some]at this;show eX (aJ D.files y P)<=D.most;unfold ak.used at c;omega
 ·show(aJ D.files y P).length<=64
  rw[xY (by rw[a];rfl)];exact n.many
 ·intro x j
  rcases gq n.tidy j with rfl|⟨j,_⟩
  ·show cT y=true
   exact n.names _ e
  ·exact n.names x j
 ·intro x j
  rcases gq n.tidy j with rfl|⟨j,_⟩
  ·exact d
  ·exact n.TM x j
def ak.Ok.del{D:ak}(n:D.Ok)(P:ByteArray):(D.vY P).Ok:=by
 have d:=Jq D.files P;have e:=yM (l:=D.files) (k:=P);have c:=n.fits;have f:=n.many;unfold ak.used at c;exact⟨n.most,by show eX (bM D.files P)<=D.most;omega,by show(bM D.files P).length<=64;omega,n.tidy.bM P,λa b=>n.names a (gR b),λa b=>n.TM a (gR b),n.Ca,n.Cb⟩
def ak.Ok.put{D:ak}(n:D.Ok)(b:cT y=true)(c:X.bytes.length+D.used<=D.most)(e:D.files.length<64)(d:X.synced<=X.bytes.length):(D.fv y X).Ok:=by
 refine⟨n.most,?_,?_,n.tidy.aJ _ _,?_,?_,n.Ca,n.Cb⟩
 ·have:=yL (l:=D.files) (k:=y) (f:=X)
  show eX (aJ D.files y X)<=D.most;unfold ak.used at c;omega
 ·have:=yy D.files y X
  show(aJ D.files y X).length<=64;omega
 ·intro a P
  rcases gq n.tidy P with rfl|⟨P,_⟩
  ·exact b
  ·exact n.names a P
 ·intro a P
  rcases gq n.tidy P with rfl|⟨P,_⟩
  ·exact d
  ·exact n.TM a P
def xZ{l:List (ByteArray×j)}{k:ByteArray}(n:(an l k).isSome=true):(bM l k).length+1=l.length:=by
 induction l with
 |nil=>simp[an]at n
 |cons P l a=>
  obtain⟨c,d⟩:=P;simp only[bM,an]at n⊢;split
  ·rfl
  ·rename_i b
   rw[Zq b]at n;simp[a n]
def x_(P:List (ByteArray×j))(a:ByteArray)(c b:j):aJ (aJ P a c) a b=aJ P a b:=by
 induction P with
 |nil=>simp[aJ]
 |cons d P e=>
  obtain⟨f,g⟩:=d;simp only[aJ]
  by_cases n:(a==f)=true
  ·rw[Zx n,Zx n];simp[aJ]
  ·rw[Zq n,Zq n];simp[aJ,n,e]
def eM.Uv{G:RK}(P:eM b a G X)(c:∀n,eM n a G {X with jN:=true}->aj (·=a) b n->n.heap.size=b.heap.size->z n):PS b ⟨a,0+2,none⟩ (.bool true) z:=by
 obtain⟨i,j,d,k,l,m,o,f⟩:=P.body;refine PS.mk l sM λp g q r=>c p ⟨⟨i,j,d,k,r,m.keep g (λh e s=>f (s▸e)),o,f⟩,P.self,λh e=>by have:=P.aF h e;omega⟩ g q
def ak.Ok.cut{D:ak}(P:D.Ok)(a:an D.files y=some X)(n:Int):(D.fv y (X.cut n)).Ok:=by
 have b:=Uu X n;have c:=oh n X.bytes.length;have d:=P.fits;exact P.set a oM (by rw[b];exact Q4 _)
def fA.get{D:ak}(P:fA b a f D c a3){n:om}(d:an a3 y=some n):an D.files y=some n.f:=by
 rw[P.files];have:=Cd (λn:om=>n.f) a3 y;rw[d]at this;exact this
def mE(P:Value)(c:World)(e:ai k b)(n:v_ b a f d7 P c):∃d:Int,P= WP d/\Ok (v_ k a f d7) (.returned (WP d)) c:=by
 obtain⟨g,rfl,h,i⟩:=n;exact⟨_,rfl,Ok.mk ⟨g,rfl,h,(cy.mk e.keep λ_ n=>.inl n:cy f k f b).trans i⟩⟩
def EV{D:ak}(P:aV b a f D){k:ByteArray}:
  ba 172 #[LL a,.string k] b (Ok (v_ b a f (D.sync k))):=by
 refine vI (PC.ok (wh P (k:=k) (g:=236) (body:=λD d=>(0,D.fv k (d.cut d.bytes.length))) kR λv w x y i n c z=>?_) λj l P=>mE j l (aj.refl b) P);have e:=n.each.each _ (cx c);have g:=n.get c;obtain⟨A,B,m,C,o,p,E,F⟩:=e.body;have q:=p.len dC;refine sX ⟨i.q,0,rfl,_,_,_,ae o rfl,PC.ok (Ce e (n.ok.len (cx g))) ?_⟩;rintro _ H ⟨I,rfl,h,r⟩;rw[q]at h;obtain⟨s,t,u⟩:=n.fg c h r (n.ok.cut g _);exact⟨rfl,Ok.mk ⟨s,rfl,t.at,u⟩⟩
def Sb{D:ak}(P:aV b a f D):
  ba 169 #[LL a,.string y,WP e] b (Ok (v_ b a f (D.og y e))):=by
 refine xI (PA.mk λu d v h=>PC.ok (wh (P.af d) (k:=y) (g:=232) (body:=λD i=>(0,D.fv y (i.cut e))) kR λw x z A B n c j=>?_) λk l P=>mE k l d P);have m:=n.each.each _ (cx c);have g:=n.get c;refine uB ⟨_,ae (j.get h λo=>by have:=P.aF _ o;omega) rfl,PC.ok (Ce m (n.ok.len (cx g))) ?_⟩;rintro _ C ⟨E,rfl,p,q⟩;obtain⟨r,s,t⟩:=n.fg c p q (n.ok.cut g _);exact⟨rfl,Ok.mk ⟨r,rfl,s.at,t⟩⟩
def yN{D:ak}(n:aV b a f D):
  ba 141 #[LL a,.string y] b (Ok (v_ b a f (D.delete y))):=by
 refine sS (PA.mk λw g x h=>PA.mk λz d A i=>⟨_,ae (d.get h id) rfl,_,ae i rfl,PC.ok (wh ((n.af g).af d) (k:=y) (g:=211) (body:=λD B=>(0,D.vY y)) kR λC m o E F p H j=>?_) λq r n=>mE q r (g.af d) n⟩);have s:=j.get (d.get h id) λP=>by have:=n.aF _ P;omega
 have t:=j.get i λP=>by have:=n.aF _ P;omega
 refine qm λu k=>?_;have c:=p.af k.keep;have e:ai m u:=k.keep;refine⟨_,ae (e.get s id) rfl,a,0,rfl,some o,ae c.head rfl,y,ae (e.get t id) rfl,Mk mF kS c.map λI v l J=>Ok.mk ⟨f,rfl,(c.drop v l (c.ok.del y)).at,?_,λ_ n=>.inl n⟩⟩;exact e.keep.then (l.mono λK _ P=>by rw[P];exact c.Fr)
def Jr{D:ak}(c:aV b a f D){k e:ByteArray}:
  ba 182 #[LL a,.string k,.string e] b (Ok (v_ b a f (D.rename k e))):=by
 refine sW (PA.mk λw1 J s1 K=>PA.mk λX o s2 L=>PA.mk λw3 g s3 Y=>⟨_,ae (g.get (o.get K id) id) rfl,_,ae (g.get L id) rfl,PC.ok (wh (((c.af J).af o).af g) (k:=k) (g:=242)
  (body:=λD Z=>if cT e then(0,(D.vY k).fv e {Z with jN:=true})else(1,D)) kR λhd s t b1 x d M u=>?_) λa0 w' c=>mE a0 w' ((J.af o).af g) c⟩)
 have h:=u.get (g.get (o.get K id) id) λn=>by have:=c.aF _ n;omega
 have v:=u.get (g.get L id) λn=>by have:=c.aF _ n;omega
 have N:=u.get Y λn=>by have:=c.aF _ n;omega
 have w:=cx M;have y:=d.get M;refine qs ⟨_,ae N rfl,PC.ok wi ?_⟩;rintro _ w5 ⟨rfl,z⟩;refine⟨_,rfl,al.not (al.mk (λp=>λw6 a6=>?_) (λp=>Ok.mk ?_))⟩
 ·have i:ai s w6:=z.af a6.keep
  have q:=d.af i;refine⟨_,ae (i.get h id) rfl,a,0,rfl,some t,ae q.head rfl,_,ae (i.get v id) rfl,Mk mF kS q.map λw7 a7 A b8=>λB C=>?_⟩;have a8:=q.drop a7 A (q.ok.del k);have E:=a8.af C.keep;have O:∀P,P=t->f P:=λP n=>by rw[n];exact d.Fr
  have F:aj f s B:=(i.keep.then (A.mono λP _ n=>O P n)).af C.keep;have Q:∀{P:Nat} {R:Obj},s.heap[P]? =some R->b.heap.size<=P->B.heap[P]? =some R:=λn b9=>F.get n λhF=>by have:=c.aF _ hF;omega
  have j:=d.Jp _ w;have S:eM B (om.q x) (om.G x) (om.f x):=(((d.each.each _ w).keep i λ_ _ c=>c).keep A λP n=>(j P n).2.2).keep C.keep λ_ _ c=>c;have a1:b.heap.size<=X.heap.size:=oM
  refine⟨_,ae (Q h (Q4 _)) rfl,a,0,rfl,some t,ae E.head rfl,e,ae (Q N a1) rfl,dB mF kS E.map λw9 a9 H c2=>⟨x.q,0,rfl,?_⟩⟩;have b0:=d.ok.fits;have T:=yM (l:=D.cR.files) (k:=k);rw[y]at T;simp only[Option.map_some,Option.getD_some]at T;have b6:=xZ (l:=D.cR.files) (k:=k) (by rw[y];rfl);have b7:=d.ok.many;have a2:=d.ok.TM _ (cx y);have U:∀l:bQ,l.bytes=x.f.bytes->l.synced=x.f.synced->((D.cR.vY k).fv e l).Ok:=λl h v=>(d.ok.del k).put p (by
   show l.bytes.length+eX (bM D.cR.files k)<=D.cR.most;unfold ak.used at b0;rw[h];omega) (by show(bM D.cR.files k).length<64;omega) (by rw[h,v];exact a2)
  have b2:=E.put (q:=x.q) (G':=x.G) a9 H S (λa3 hy c3 P n b3=>by
   obtain⟨b4,b5⟩:=Hh d.each.tidy hy;exact d.each.apart _ w a3 b4 (λI=>b5 I.symm) P n b3) (λP n=>(j P n).2) (U x.f rfl rfl)
  have V:eM w9 x.q x.G x.f:=S.keep H λP n=>(j P n).2.2;refine V.Uv λc4 a4 a5 c0=>Ok.mk ?_;obtain⟨F',m,W⟩:=b2.fg (k:=e) (x:=⟨x.q,x.G,x.f⟩) (by rw[bl];simp) a4 ⟨a5.mono λP _ n=>n▸V.self,λ_ c=>.inl c⟩ (by
   unfold ak.fv;simp only[x_];exact U {x.f with jN:=true} rfl rfl)
  rw[p,Zx rfl];have I:((D.cR.vY k).fv e x.f).fv e {x.f with jN:=true}=(D.cR.vY k).fv e {x.f with jN:=true}:=by
   unfold ak.fv;simp only[x_]
  refine⟨F',rfl,by rw[<-I];exact m.at,⟨?_,λP n=>?_⟩⟩
  ·exact(F.then (H.mono λP _ n=>O P n)).then (W.keep.mono λP _ n=>n.elim id λc=>(j P c).1)
  ·rcases W.new P n with(r|r)|r
   ·exact .inl r
   ·exact .inl (j P r).1
   ·have:=F.size;exact .inr oM
 ·rw[p];exact⟨f,rfl,(d.af z).at,z.keep,λ_ c=>.inl c⟩
def yO{D:ak}(n:aV b a f D):
  ba 170 #[LL a,.string y] b (Ok (v_ b a f (D.create y))):=by
 refine sV (PA.mk λw1 H s1 I=>PA.mk λw2 m s2 N=>⟨_,ae (m.get I id) rfl,PC.ok (NL ((n.af H).af m) (g:=234)
  (body:=λD=>if cT y then(if(an D.files y).isSome then(16,D)else if 64<=D.files.length then(12,D)else(0,D.fv y ⟨[],0,false⟩))else(1,D)) kR λhd r O s=>?_) λQ R n=>mE Q R (H.af m) n⟩)
 obtain⟨e,t,P⟩:=O.open;have u:=s.get (m.get I id) λc=>by have:=n.aF _ c;omega
 have v:=s.get N λc=>by have:=n.aF _ c;omega
 refine qq ⟨_,ae v rfl,PC.ok wi ?_⟩;rintro _ w ⟨rfl,g⟩;refine⟨_,rfl,al.not (al.mk (λh=>?_) (λh=>Ok.mk ?_))⟩
 ·have x:=P.af g
  have J:∀k,(Instr.lookup 141 (.map (some e)) (.string y) false).run PP (w.drewN k)= .ok ((an (t.map eD) y).getD (.pointer none)) (w.drewN k):=λk=>by
   have:=eN mF kS (x.map.keep (aj.drewN (S:=λ_=>False) w k) id) y false;simpa using this
  have S:∃i:am,(an (t.map eD) y).getD (.pointer none)= .pointer i/\i.isSome=(an D.cR.files y).isSome:=by
   rcases P.box y with⟨z,A⟩|⟨T,b0,bm,z,A⟩
   ·exact⟨none,by rw[A];rfl,by rw[z];rfl⟩
   ·exact⟨L1 T.q,by rw[A];rfl,by rw[z];rfl⟩
  obtain⟨i,U,B⟩:=S;rw[U]at J;refine⟨_,ae (g.get u id) rfl,a,0,rfl,some e,ae x.head rfl,y,ae (g.get v id) rfl,i,J,i.isSome,λk=>qJ uF _ _ i _,λV C=>al.mk (λW=>Ok.mk ?_) (λK=>?_)⟩
  ·rw[h,Zx rfl,Zx (by rw[<-B];exact W)]
   exact⟨f,rfl,(x.af C.keep).at,ai.keep (g.af C.keep),λ_ n=>.inl n⟩
  ·have o:ai r V:=g.af C.keep
   have E:=P.af o;have a8:(t.map eD).length=D.cR.files.length:=by rw[P.files];simp
   refine⟨_,ae (o.get u id) rfl,a,0,rfl,some e,ae E.head rfl,Ws mF E.map ⟨_,rfl,al.dec (λa9=>Ok.mk ?_) (λb3=>λl X=>?_)⟩⟩
   ·rw[h,Zx rfl,Zq (by rw[<-B,K];simp),Zx oM]
    exact⟨f,rfl,E.at,o.keep,λ_ n=>.inl n⟩
   ·have j:ai r l:=o.af X.keep
    have p:=P.af j;have b4:=P.map.lt;have b5:=aA P.head;have a7:b.heap.size<=r.heap.size:=by have:=s.size;omega
    have L:∀d,b.heap.size<=d->d≠e:=λd c a2=>by have:=n.aF e P.Fr;omega
    refine⟨(·=e),L _ (Q4 _),_,ae (j.get u id) rfl,a,0,rfl,P.pr,some e,ae p.head rfl,L _ oM,y,ae (j.get v id) rfl,PA.mk λM q s7 Y=>⟨q.keep,dB mF kS (p.af q).map λw8 Z F b6=>⟨F,Ok.mk ?_⟩⟩⟩;have a3:=p.af q;have a0:eM M l.heap.size (·=l.heap.size) ⟨[],0,false⟩:=⟨⟨none,0,0,λ_=>False,Y,aU.nil M,λ_ n=>n.elim,λn=>n⟩,rfl,λd c=>oM⟩
    have a4:(D.cR.fv y ⟨[],0,false⟩).Ok:=P.ok.put h (by have:=P.ok.fits;simpa using this) oM (Q4 _);have a5:=a3.put (q:=l.heap.size) (G':=(·=l.heap.size)) Z F a0 (λa1 hy _ d c a6=>by have:=(p.each.each a1 hy).aF d a6;omega) (λd c=>by have:=j.size;omega) a4;rw[h,Zx rfl,Zq (by rw[<-B,K];simp),Zq oM];refine⟨_,rfl,a5.at,⟨(j.keep.af q).then (F.mono λd _ c=>by rw[c];exact P.Fr),λd c=>c.imp id λn=>by have:=j.size;omega⟩⟩
 ·rw[h]
  exact⟨f,rfl,(P.af g).at,g.keep,λ_ n=>.inl n⟩
def il(n:List (ByteArray×om)):Nat:=(n.map λP=>P.2.f.bytes.length).sum
def EW(n:List (ByteArray×om)):il n=eX (n.map vZ):=by unfold il eX;rw[List.map_map];rfl
def ye{left:List (ByteArray×om)}(c:left.map eD=g1++(y,x)::h4):
  ∃n P a,left=n++(y,P)::a/\g1=n.map eD/\h4=a.map eD/\x=ptr P.q:=by
 obtain⟨n,j,d,e,f⟩:=List.map_eq_append_iff.1 c;obtain⟨g,a,h,b,i⟩:=List.map_eq_cons_iff.1 f;obtain⟨k,P⟩:=g;simp only[eD,Prod.mk.injEq]at b;obtain⟨rfl,rfl⟩:=b;exact⟨n,P,a,by rw[d,h],e.symm,i.symm,rfl⟩
def Pn{D:ak}(g:aV b a f D):
  ba 239 #[LL a] b (Ok λj h=>j= WP D.room/\ai b h):=by
 obtain⟨k,P,c⟩:=g.open;have Q:=c.ok.most;have l:=c.ok.fits;unfold ak.used at l;rw[c.files,<-EW]at l;refine vM ⟨a,0,rfl,_,ae c.head rfl,a,0,rfl,some k,ae c.head rfl,mapRange mF c.map λR v w S=>?_⟩;refine⟨λm o h=>∃left:List (ByteArray×om),cU h b.heap.size k Value.string (P.map eD) (left.map eD)/\m=left.length/\o=(D.most:Int)-il P+il left/\il left<=il P/\ai b h/\∀n∈left,n∈P,
  ⟨_,P,v,rfl,oM,Q4 _,w,λ_ g=>g⟩,?_⟩
 rintro m o T U ⟨left,x,rfl,rfl,V,p,q⟩;refine oq x (λy=>.inl ⟨rfl,Ok.mk ⟨?_,p⟩⟩) λi j W X r z A B C Y=>.inr ⟨_,_,rfl,rz B ?_⟩
 ·have:left=[]:=by simpa using y
  subst this;simp only[il,List.map_nil,List.sum_nil,ak.room,ak.used];rw[c.files,<-EW];simp[il]
 ·obtain⟨e,n,d,rfl,rfl,rfl,rfl⟩:=ye z
  have E:(i,n)∈P:=q _ sM;have s:ai b r:=p.new C λd Z=>.inr oM;have F:eM r n.q n.G n.f:=(c.each.each _ E).keep s λ_ _ g=>g;obtain⟨H,t,I,F0,J,K,h3,h4⟩:=F.body;have L:=K.len dC;have M:il (e++(i,n)::d)=il (e++d)+n.f.bytes.length:=by simp[il];omega
  have N:GT .i64 ((D.most:Int)-il P+il (e++(i,n)::d)-((t:Nat):Int))=(D.most:Int)-il P+il (e++d):=by
   rw[wrap_i64 (by unfold aM;omega),L,M];omega
  refine⟨_,_,rfl,n.q,0,rfl,H,t,I,ae J rfl,(e++d).length,sM,e++d,?_,rfl,N,oM,s,λO u=>q O ?_⟩
  ·rw[Q3];exact A
  ·simp only[Q6,Q2]at u⊢;exact u.imp id .inr
def yP{D:ak}(h:aV b a f D)(P:Row gl 1 b a5 d c w)(X:d=none->c=0/\i=0)(v:∀n,a5 n->n<b.heap.size/\¬f n):
  ba 178 #[LL a,.string y,.slice d c i] b (Ok (v_ b a f (D.append y w))):=by
 have K:=P.len;have Y:=P.fe;unfold aR at Y;refine sT (PA.mk λw1 x s1 L=>PA.mk λw2 k s2 Z=>⟨_,ae (k.get L id) rfl,PC.ok (wh ((h.af x).af k) (k:=y) (g:=238)
  (body:=λD M=>if(w.length:Int)>D.room then(12,D)else(0,D.fv y {M with bytes:=M.bytes++w})) kR λhd r a0 b6 e g z s=>?_) λa1 w' h=>mE a1 w' (x.af k) h⟩)
 have e1:=s.get (k.get L id) λP=>by have:=h.aF _ P;omega
 have N:=s.get Z λP=>by have:=h.aF _ P;omega
 have a4:Row gl 1 r a5 d c w:=((P.af x).af k).keep s λn P=>(v n P).2;have A:=g.get z;refine qo λw4 t=>⟨λ_=>False,id,d,c,i,ae (t.keep (S:=λ_=>False)|>.get N id) rfl,_,ae (t.keep (S:=λ_=>False)|>.get e1 id) rfl,PC.ok (Pn (g.af t.keep).at) ?_⟩
 rintro _ w5 ⟨rfl,O⟩;have B:ai r w5:=(bw.keep t).then O;refine⟨_,rfl,O,al.dec (λa2=>Ok.mk ?_) (λa6=>λl a7=>?_)⟩
 ·rw[Zx (by rw[<-K];exact a2)]
  exact⟨f,rfl,(g.af B).at,B.keep,λ_ h=>.inl h⟩
 ·have m:ai r l:=B.af a7.keep
  have C:=g.af m;have Q:=cx z;have E:eM l e.q e.G e.f:=C.each.each _ Q;obtain⟨u,R,fc,F0,F,o,H,S⟩:=E.body;have b7:=o.len dC;have b8:e.f.bytes.length<=262144:=g.ok.len (cx A);have a8:∀n,e.G n->f n/\n≠a/\n≠a0:=C.Jp _ Q;refine⟨e.q,0,rfl,u,R,fc,ae F rfl,d,c,i,ae (m.get N id) rfl,?_⟩;have a3:∀n,a5 n->n<l.heap.size/\aG u≠some n:=λn P=>⟨by have:=(v n P).1;have:=s.size;have:=m.size;omega,λj=>(v n P).2 (a8 n (H n (o.self n j))).1⟩
  have b9:D.cR.room<=262144:=by have:=g.ok.most;unfold ak.room;omega
  refine AF o tZ (a4.af m) X a3 (by unfold aR;omega) (by unfold maxLen;omega) λp c' w7 F' I J _ T=>?_;have hq:aG u≠some e.q:=λj=>S (o.self _ j);have c0:=aA F;have q:aG p≠some e.q:=λj=>by rcases T _ j with h|h;exact S h;omega
  refine⟨_,_,_,rfl,e.q,0,rfl,PS.mk (J.get F hq) sM λU V s8 g8=>Ok.mk ?_⟩;have W:¬((w.length:Int)>D.cR.room):=by rw[<-K];exact a6
  rw[Zq W];have a9:∀n,aG u=some n->e.G n:=λn j=>H n (o.self n j);have b0:eM U e.q (λn=>n=e.q\/aG p=some n) {e.f with bytes:=e.f.bytes++w}:=
   ⟨⟨p,R+c,c',λn=>aG p=some n,g8,I.alone.keep V (λn P b1=>q (by rw[<-b1];exact P)),λn P=>.inr P,q⟩,.inl rfl,by
    rintro n (rfl|P)
    ·have:=J.size;omega
    ·have:=I.aF n (I.self n P);omega⟩
  have b2:cy e.G l (λn=>n=e.q\/aG p=some n) U:=⟨(J.mono λn _ P=>a9 n P).then (V.mono λn _ P=>P▸E.self),by
   rintro n (rfl|P)
   ·exact .inl E.self
   ·exact(T n P).imp (λh=>H n h) id⟩
  have b3:(D.cR.fv y {e.f with bytes:=e.f.bytes++w}).Ok:=g.ok.set A (by
   unfold ak.room at W;simp only[QX];omega) (by have:=g.ok.TM _ (cx A);simp only[QX];show e.f.synced<=_;have h':e.f.synced<=e.f.bytes.length:=this;omega)
  obtain⟨F2,b4,b5⟩:=C.fg z b0 b2 b3;exact⟨F2,rfl,b4.at,(cy.mk m.keep λ_ h=>.inl h:cy f r f l).trans b5⟩
def yh{D:ak}(g:aV b a f D):
  ba 162 #[LL a,.string y] b (Ok λl m=>∃i,l= .tuple #[i,WP (D.read y).2]/\qI gl 5 b (D.read y).1 i m):=by
 obtain⟨j,C,P⟩:=g.open;have n:qI gl 5 b [] (.slice none 0 0) b:=⟨none,0,0,λ_=>False,rfl,aU.nil b,aj.refl _,λ_ g=>g.elim⟩
 rcases P.box y with⟨e,h⟩|⟨d,E,o,e,h⟩
 ·refine mB ⟨a,0,rfl,some j,ae P.head rfl,AH mF kS P.map ?_⟩
  rw[h];refine⟨_,rfl,a,0,rfl,_,ae P.head rfl,al.mk (λc=>Ok.mk ?_) (λc=>gZ uF ⟨_,rfl,al.tt rfl (Ok.mk ?_)⟩)⟩
  ·unfold ak.read;rw[c,Zx rfl];exact⟨_,rfl,n⟩
  ·unfold ak.read;rw[c,Zq sM,e];exact⟨_,rfl,n⟩
 ·refine mB ⟨a,0,rfl,some j,ae P.head rfl,AH mF kS P.map ?_⟩
  rw[h];refine⟨_,rfl,a,0,rfl,_,ae P.head rfl,al.mk (λc=>Ok.mk ?_) (λc=>gZ uF ⟨_,rfl,al.ff rfl ?_⟩)⟩
  ·unfold ak.read;rw[c,Zx rfl];exact⟨_,rfl,n⟩
  ·have p:eM b d.q d.G d.f:=P.each.each _ o
   obtain⟨q,r,s,F,t,k,H,I⟩:=p.body;have J:d.f.bytes.length<=262144:=P.ok.len (cx e);refine⟨d.q,0,rfl,q,r,s,ae t rfl,PC.ok (lL (k.row dC (by unfold aR;omega)) k.aF) ?_⟩;rintro _ K ⟨u,v,w,x,rfl,z,A,B⟩;unfold ak.read;rw[c,Zq sM,e];exact⟨_,_,_,rfl,Ok.mk ⟨_,rfl,u,v,w,x,rfl,z,A,B⟩⟩
def yi{D:ak}(j:aV b a f D):
  ba 160 #[LL a] b (Ok (qI Pk 9 b D.list)):=by
 obtain⟨g,h,n⟩:=j.open;have z:=n.ok.many;have A:h.length=D.files.length:=by rw[n.files];simp
 refine vJ ⟨a,0,rfl,some g,ae n.head rfl,PC.ok (φ:=λk d=>k= .func (.func 282) #[] #[LL b.heap.size]/\ai b d/\d.heap.size=b.heap.size+1/\
  d.heap[b.heap.size]? =some (.cells #[.map (some g)] 141 (0,0))) (dZ (PA.mk λl P i e=>Ok.mk ⟨rfl,P,i,e⟩)) ?_⟩
 rintro _ l ⟨rfl,P,i,e⟩;refine⟨_,rfl,PC.ok (Ao (n.map.af P) (λB m=>?_) (by rw[Q8];unfold aR;omega) e) ?_⟩
 ·obtain⟨c,o,rfl⟩:=Xk.1 m
  have:=n.ok.names (vZ c) (by rw[n.files];exact Xk.2 ⟨c,o,rfl⟩);unfold cT at this;simp only[QK,Zk]at this;have C:c.1.size<=16:=this.1.2;show c.1.size<=maxLen;unfold maxLen;omega
 ·rintro _ E ⟨p,q,r,s,rfl,t,u,v⟩
  refine⟨_,_,_,rfl,Ok.mk ⟨p,q,r,s,rfl,?_,P.af u,λw x=>by have:=v w x;omega⟩⟩;have y:tC ((h.map eD).map (·.1))=D.list:=by unfold ak.list;rw[n.files,List.map_map,List.map_map];rfl
  rw[<-y];exact t
def Js{n:List (ByteArray×j)}(P:Tidy n)(a:ByteArray):bM n a=n.filter λb=>b.1 !=a:=by
 induction n with
 |nil=>rfl
 |cons f n e=>
  obtain⟨b,k⟩:=f;unfold Tidy at P e;simp only[QY,List.nodup_cons]at P;unfold bM
  by_cases c:(a==b)=true
  ·rw[Zx c]
   have g:a=b:=eq_of_beq c;subst g;rw[List.filter_cons_of_neg sM];exact(List.filter_eq_self.2 λh i=>by
    simp only[bne_iff_ne,ne_eq];intro d;exact P.1 (d▸Xk.2 ⟨h,i,rfl⟩)).symm
  ·rw[Zq c,e P.2,List.filter_cons_of_pos]
   simp only[bne_iff_ne,ne_eq];intro d;exact c (by rw[d];simp)
def stays(left:List (ByteArray×om))(n:ByteArray×om):Bool:=n.2.f.jN||left.any λP=>P.1==n.1
def Ap(J:bV b a Value.string (a3.map eD))(l:EU b a3)(K:∀n∈a3,∀c,n.2.G c->c≠a):
  ba 137 #[.map (some a),.func (.func 138) #[] #[]] b
   (Ok λo h=>o= .tuple #[]/\bV h a Value.string ((a3.filter λn=>n.2.f.jN).map eD)/\aj (·=a) b h):=by
 have L:enters PP 138=true:=kR
 refine dj (mapRange mF J λw1 M N s1=>?_);refine⟨λu h=>∃left:List (ByteArray×om),cU h b.heap.size a Value.string ((a3.filter (stays left)).map eD) (left.map eD)/\u=left.length/\aj (·=a) b h/\(∀n∈left,n∈a3)/\Tidy left,
  ⟨_,a3,?_,rfl,N.keep,λ_ O=>O,l.tidy⟩,?_⟩
 ·have i:a3.filter (stays a3)=a3:=List.filter_eq_self.2 λn m=>by
   unfold stays;rw[Bool.or_eq_true];exact .inr (List.any_eq_true.2 ⟨n,m,sM⟩)
  rw[i];exact M
 ·rintro u a0 w2 ⟨left,p,rfl,v,w,j⟩
  refine oq p (λk=>.inl ⟨rfl,Ok.mk ⟨rfl,?_,v⟩⟩) λd o l1 l2 r Q x R S s3=>.inr ⟨_,_,rfl,rz R ?_⟩
  ·have:left=[]:=by simpa using k
   subst this;have i:(a3.filter (stays []))=a3.filter λn=>n.2.f.jN:=List.filter_congr λn _=>by simp[stays]
   rw[i]at p;exact p.map
  ·obtain⟨e,n,c,rfl,rfl,rfl,rfl⟩:=ye Q
   have m:(d,n)∈a3:=w _ sM;have a6:b.heap.size≠a:=p.ne;have s:aj (·=a) b r:=v.new S λc y=>.inr oM;have T:eM r n.q n.G n.f:=(l.each _ m).keep s λc y=>K _ m c y;obtain⟨fa,fn,fc,F0,q,z,h3,h4⟩:=T.body;have A:d∉(e++c).map (·.1):=by
    unfold Tidy at j;rw[Q3,QY]at j;rw[Q3];intro U;have V:=(List.perm_middle (a:=d) (l₁:=e.map (·.1)) (l₂:=c.map (·.1))).nodup_iff.1 j;exact(List.nodup_cons.1 V).1 U
   have B:∀P∈a3,P.1≠d->stays (e++(d,n)::c) P=stays (e++c) P:=λP f g=>by
    unfold stays
    congr 1
    have:(d==P.1)=false:=beq_false_of_ne (Ne.symm g);simp[List.any_append,this]
   have C:∀P∈a3,P.1=d->P=(d,n):=λP f k=>by
    have q:=ru l.tidy (k:=P.1) (v:=P.2) f;have z:=ru l.tidy (k:=d) (v:=n) m;rw[k,z]at q;exact Prod.ext k (XJ q).symm
   have W:(e++c).any (λP=>P.1==d)=false:=by
    rw[List.any_eq_false];intro P f k;exact A (Xk.2 ⟨P,f,eq_of_beq k⟩)
   have E:Tidy (e++c):=by
    unfold Tidy at j⊢;rw[Q3,QY]at j;rw[Q3];exact(List.nodup_cons.1 ((List.perm_middle (a:=d) (l₁:=e.map (·.1)) (l₂:=c.map (·.1))).nodup_iff.1 j)).2
   have F:∀P∈e++c,P∈a3:=λP f=>w P (by simp only[Q6,Q2]at f⊢;exact f.imp id .inr);have H:(e++c).length<(e++(d,n)::c).length:=sM
   refine⟨_,_,rfl,_,_,_,rfl,L,PC.ok (φ:=λo h=>o= .bool (!n.f.jN)/\h=r) (q_ ⟨n.q,0,rfl,_,ae q rfl,Ok.mk ⟨rfl,rfl⟩⟩) ?_⟩;rintro _ _ ⟨rfl,rfl⟩;refine⟨_,rfl,al.not (al.mk (λt=>⟨_,H,e++c,?_,rfl,s,F,E⟩) (λt=>?_))⟩
   ·have i:a3.filter (stays (e++(d,n)::c))=a3.filter (stays (e++c)):=List.filter_congr λP f=>by
     by_cases g:P.1=d
     ·rw[C P f g];simp[stays,t]
     ·exact B P f g
    rw[Q3,<-i];exact x
   ·refine Sc mF kS x (by rw[<-Q3];simpa[eD,Function.comp_def]using A) λw4 I X s4=>⟨_,H,e++c,?_,rfl,s.then X,F,E⟩
    have i:bM ((a3.filter (stays (e++(d,n)::c))).map eD) d=(a3.filter (stays (e++c))).map eD:=by
     have Y:bM ((a3.filter (stays (e++(d,n)::c))).map eD) d=(bM (a3.filter (stays (e++(d,n)::c))) d).map eD:=(Cc (λn:om=>ptr n.q) _ d).symm;have Z:Tidy (a3.filter (stays (e++(d,n)::c))):=List.Nodup.sublist (List.Sublist.map _ List.filter_sublist) l.tidy;rw[Y,Js Z,List.filter_filter]
     congr 1
     refine List.filter_congr λP f=>?_
     by_cases g:P.1=d
     ·rw[C P f g]
      simp only[stays,t,W,Bool.or_false,bne_self_eq_false,Bool.false_and]
     ·rw[B P f g]
      have:(P.1 !=d)=true:=by simpa using g
      rw[this,Bool.true_and]
    rw[i,<-Q3]at I;exact I
end
end Go.Proofs.YtjgjkeponbeekaaGreatDoor
namespace Go.ar
open Go
def cH(n:List UInt8):ByteArray:=⟨n.toArray⟩
def ox(n:List UInt8):(cH n).data.toList=n:=by simp[cH]
def Xa(n:ByteArray):cH n.data.toList=n:=by simp[cH]
variable{b0 w:List UInt8}{a:Nat}{Y a1:Operand}{h:Program}{g:TypeId}{q v:UX}{b:World}
def N_(n:cH w=cH b0):w=b0:=by rw[<-ox w,n,ox]
def jk(n:List UInt8):(cH n).size=n.length:=by simp[cH,ByteArray.size]
def h_(n:ByteArray):Int×Bool:=match jC n.data.toList with
 |some P=>(P,true)
 |none=>(0,false)
def aaf{a n:List UInt8}(c:a.length+n.length<=1000000000)(P:q (.string (cH (a++n))) b):
  aK h (do eqGuard .add g Y a1 (.string (cH a)) (.string (cH n));binOp .add g (.string (cH a)) (.string (cH n))) b q v:=by
 refine aK.mk (v:=.string (cH a++cH n)) (w':=b) ?_ ?_
 ·rw[Sem.run_bind,show(eqGuard .add g Y a1 (.string (cH a)) (.string (cH n))).run h b= .ok () b from rfl,Result.andThen_ok,binOp_string_add,run_string_add_sum b (cH a) (cH n) (by rw[jk,jk];omega)]
 have:cH a++cH n=cH (a++n):=by
  apply ByteArray.ext;simp[cH]
 rw[this];exact P
def ai.Vl{n:Array Obj}:ai b (Sort.grow (b.drewN a) n):=
 ⟨rfl,rfl,rfl,sM,λc P _=>by rw[Sort.heap_grow_old _ _ (by simpa using P)];rfl⟩
end Go.ar
namespace Go.Proofs.YtjgjkeponbeekaaGreatDoor
section
open Go.ar
structure Laid (w:World):Prop where
 pW:qU w
 pow:Lib.TabIs PP w "internal/strconv.uint64pow10" .u64 Lib.pow10Tab
variable{y:ByteArray}{e:Int}{b0 w:List UInt8}{b k:World}
def Laid.af(n:Laid b)(P:ai b k):Laid k:=⟨n.pW.af P,Lib.tabBelow_of_tabIs n.pow k P.below⟩
def strconv_Itoa{n:Int}{P:World}(c:Laid P)(a:aM n):ba 213 #[WP n] P (Ok λd b=>d= .string (cH (Lib.itoa n))/\ai P b):=by
 refine(Any.strconv_Itoa Tryz.Tl n a.1 a.2 P c.pow).mono ?_;rintro e b ⟨rfl,f,g,rfl⟩;exact Ok.mk ⟨rfl,ai.Vl⟩
def kf(P:Laid b)(a:aM e):ba 146 #[WP e] b (Ok λc d=>c= .string (cH (ax e))/\ai b d):=by
 refine BF (al.dec (λn=>?_) (λg=>al.dec (λn=>?_) (λh=>PC.ok (strconv_Itoa P a) ?_)))
 ·exact Ok.mk ⟨by unfold ax;rw[Zx (.inl n)];rfl,aj.refl _⟩
 ·exact Ok.mk ⟨by unfold ax;rw[Zx (.inr n)];rfl,aj.refl _⟩
 rintro _ i ⟨rfl,f⟩;refine⟨_,rfl,aaf (a:=dK) ?_ ⟨_,rfl,Ok.mk ⟨?_,f⟩⟩⟩
 ·have:=pH (u:=e.toNat) oM
  unfold Lib.itoa;rw[Zq oM];show 4+_<=_;omega
 ·rw[mM oM oM]
  unfold Lib.itoa;rw[Zq oM]
def CZ:ba 324 #[.string (cH w),.string (cH b0)] b (Ok λa c=>a= .bool (decide (w.take b0.length=b0))/\b=c):=by
 refine iK ?_;rw[jk,jk];refine al.dec (λn=>⟨oM,oM,Ok.mk ⟨?_,rfl⟩⟩) (λn=>Ok.mk ⟨?_,rfl⟩)
 ·rw[Qx]
  have P:ByteArray.toList (ByteArray.extract (cH w) 0 b0.length)=w.take b0.length:=by
   rw[ByteArray.toList_eq,ByteArray.data_extract];simp[cH]
  have d:ByteArray.toList (cH b0)=b0:=by rw[ByteArray.toList_eq,ox]
  rw[P,d]
  congr 1
  by_cases n:w.take b0.length=b0<;>simp[n]
 ·have:w.take b0.length≠b0:=λP=>by have:=Zj List.length P;simp at this;omega
  rw[Xv this]
def Er:ba 224 #[.string (cH w),.string (cH b0)] b (Ok λP a=>P= .tuple (if w.take b0.length=b0 then #[.string (cH (w.drop b0.length)),.bool true]else #[.string (cH w),.bool false])/\b=a):=by
 refine rk (PC.ok (φ:=λP a=>P= .tuple (if w.take b0.length=b0 then #[.string (cH (w.drop b0.length)),.bool true]else #[.string (cH w),.bool false])/\b=a) (iI (PC.ok CZ ?_)) ?_)
 ·rintro _ _ ⟨rfl,rfl⟩
  refine⟨_,rfl,?_⟩;rw[jk,jk]
  by_cases n:w.take b0.length=b0
  ·rw[Zx n,Zy n]
   have e:b0.length<=w.length:=by have:=Zj List.length n;simp at this;omega
   refine al.ff rfl ⟨oM,oM,Ok.mk ⟨?_,rfl⟩⟩;have c:ByteArray.extract (cH w) (Int.toNat ((b0.length:Nat):Int)) w.length=cH (w.drop b0.length):=by
    apply ByteArray.ext;rw[Qx,ByteArray.data_extract];have d:List.take (w.length-b0.length) (List.drop b0.length w)=List.drop b0.length w:=Qz sM;simp[cH,d]
   rw[c]
  ·rw[Zq n,Xv n]
   exact al.tt rfl (Ok.mk ⟨rfl,rfl⟩)
 ·rintro _ _ ⟨rfl,rfl⟩
  split
  ·exact⟨_,_,rfl,Ok.mk ⟨rfl,rfl⟩⟩
  ·exact⟨_,_,rfl,Ok.mk ⟨rfl,rfl⟩⟩
def Bw(x:Laid b):ba 161 #[.string y] b (Ok λk d=>k= .tuple #[WP (h_ y).1,.bool (h_ y).2]/\ai b d):=by
 rw[<-Xa y];generalize y.data.toList=e;have c:(⟨#[115,101,103,46]⟩:ByteArray)=cH dK:=rfl;unfold h_;rw[ox];refine xH ?_;rw[c];refine PC.ok Er ?_;rintro _ _ ⟨rfl,rfl⟩;have no:∀d,jC e=none->ai b d->Ok (λk d=>k= .tuple #[WP (match jC e with|some l=>((l:Int),true)|none=>(0,false)).1,.bool (match jC e with|some l=>((l:Int),true)|none=>(0,false)).2]/\ai b d) (.returned (.tuple #[WP 0,.bool false])) d:=λd p z=>by
  rw[p];exact Ok.mk ⟨rfl,z⟩
 by_cases f:e.take dK.length=dK
 ·rw[Zx f]
  refine⟨_,_,rfl,al.ff rfl ?_⟩;have q:e=dK++e.drop 4:=by
   have:=ZX 4 e;rw[show e.take 4=dK from f]at this;exact this.symm
  change al (decide (((ByteArray.size (cH (e.drop 4)):Nat):Int)>12)) _ _
  generalize S:e.drop 4=P at q;subst q;rw[jk];refine al.dec (λp=>no _ (Nc (by rw[QX];show 16<4+_;omega)) (aj.refl _)) (λT=>?_);refine Cp Tryz.underlying9 λU A B V=>⟨λr s d=>∃n,r=P.length-n/\n<=P.length/\s=(e_ (P.take n):Int)/\d.heap[b.heap.size]? =some (.stringIter (cH P) n)/\ai b d/\(P.take n).all gV=true,⟨_,0,rfl,Qj _,rfl,A,B,rfl⟩,?_⟩
  rintro r s W X ⟨n,rfl,Y,rfl,C,g,h⟩;have E:=yw _ h;refine Hq C (λF=>.inl ⟨rfl,?_⟩) λc t u i Z=>.inr ⟨_,_,rfl,?_⟩
  ·rw[jk]at F
   rw[Qz oM]at h E⊢;have a0:10 ^ P.length<=10 ^ 12:=Nat.pow_le_pow_right oM oM;have H:(10:Nat) ^ 12=1000000000000:=dC
   refine PC.ok (kf (x.af g) (by unfold aM;omega)) ?_;rintro _ t ⟨rfl,i⟩;have v:=HR h oM;refine⟨_,rfl,al.neS (λI=>no _ ?_ (g.then i)) (λJ=>?_)⟩
   ·rw[v,Zq λK=>I (by rw[K])]
   ·rw[v,Zx (N_ J)]
    exact Ok.mk ⟨rfl,g.then i⟩
  ·have m:n<P.length:=by rwa [jk]at c
   have j:ai b t:=g.new i λa1 w=>.inr oM;have o:P[n]? =some ((cH P)[n]'c):=by
    rw[Qq m]
    congr 1
   have a:gV ((cH P)[n]'c)=false->jC (dK++P)=none:=λL=>Kx (List.all_eq_false.2 ⟨_,QZ o,by simp[L]⟩)
   by_cases w:((cH P)[n]'c).toNat<128
   ·rw[decode_ascii _ n c w]at u⊢
    simp only;refine al.dec (λM=>no _ (a ?_) j) (λN=>al.dec (λO=>no _ (a ?_) j) (λQ=>?_))
    ·unfold gV;exact Xv oM
    ·unfold gV;exact Xv oM
    ·have a2:10 ^(P.take n).length<=10 ^ 12:=Nat.pow_le_pow_right oM (by simp;omega)
     have H:(10:Nat) ^ 12=1000000000000:=dC
     refine⟨_,oM,n+1,rfl,oM,?_,u,j,?_⟩
     ·rw[Qw,o]
      show _=((e_ (P.take n++[_]):Nat):Int);rw[fZ];have R:GT .i32 ((((cH P)[n]'c).toNat:Int)-48)=(((cH P)[n]'c).toNat:Int)-48:=by
       unfold GT;simp[IntKind.signed,IntKind.bits];omega
      rw[R,wrap_i64 (x:=(((cH P)[n]'c).toNat:Int)-48) (by unfold aM;omega),wrap_i64 (x:=10*_) (by unfold aM;omega),wrap_i64 (by unfold aM;omega)];omega
     ·rw[Qw,o,List.all_append,h]
      simp[gV];omega
   ·have hh:=(decode_high _ n c oM).1
    refine al.dec (λM=>oM) (λN=>al.dec (λO=>no _ (a ?_) j) (λQ=>oM));unfold gV;exact Xv oM
 ·rw[Zq f]
  exact⟨_,_,rfl,al.tt rfl (no _ (Qm f) (aj.refl _))⟩
end
section
open Go.ar
def VX:kv PP 42 3 1 8:=⟨kR,kR,dC⟩
def fU(P:List Int)(n:Int):Int:=if n<0 then 0 else max (P.getD n.toNat 0) 0
variable{e l:Int}{b3 u:List Int}{a c i o:Nat}{d s:am}{b:World}{m:ah}
def Vu(P:0<=e)(n:u[e.toNat]? =some l):fU u e=max l 0:=by
 unfold fU;rw[Zq oM];simp[List.getD,n]
def TB(n:(u.length:Int)<=e):fU u e=0:=by
 unfold fU;split
 ·rfl
 ·have:u[e.toNat]? =none:=by simp;omega
  simp[List.getD,this]
def oK{i:Int}(f:Ints b d a u):
  ba 196 #[.slice d a c,WP i] b (Ok λg h=>g= WP (fU u i)/\b=h):=by
 refine Pb ?_;refine al.mk (λP=>?_) (λP=>al.mk (λn=>?_) (λn=>?_))
 ·have:=XV P
  exact Ok.mk ⟨by simp[fU,this],rfl⟩
 ·have n:=XV n
  exact Ok.mk ⟨by rw[TB (by rw[<-f.len];exact n)],rfl⟩
 ·have P:=Xy P
  have n:=Xy n;obtain⟨j,e,k,rfl,o,l,p,m⟩:=f.at (i:=i) oM oM;refine⟨j,e,rfl,oM,oM,k,m,Ok.mk ⟨?_,rfl⟩⟩;rw[Vu oM l]
  congr 1
  omega
def qT(P a:List Int)(b:Nat):List Int:=(List.range b).map λ(n:Nat)=>max (fU P n) (fU a n)
def kV(n P:List Int):List Int:=qT n P (max n.length P.length)
def KF(P a:List Int)(n:Nat):qT P a (n+1)=qT P a n++[max (fU P n) (fU a n)]:=by simp[qT,List.range_succ]
def tB(P a:List Int)(n:Nat):(qT P a n).length=n:=by simp[qT]
def HU(P:World)(e:TypeId)(f:List Int)(g:Value)(a:World):Prop:=
 ∃n b c,g= .slice n b c/\Own a e 1 n b c (ints f)/\ai P a/\∀d,aG n=some d->P.heap.size<=d
def Vv:(if l>e then l else e)=max e l:=oM
def Bu(h:Ints b d a u)(n:Ints b s c b3):
  ba 192 #[.slice d a i,.slice s c o] b (Ok (HU b 3 (kV u b3))):=by
 have v:=h.len;have w:=n.len;have x:=h.fe;have y:=n.fe;unfold aR at x y;refine LW ⟨λm j P p q r=>q=(P:Int)/\P<=max a c/\m=max a c-P/\Own r 3 1 j P p (ints (qT u b3 P))/\ai b r/\∀s,aG j=some s->b.heap.size<=s,
  ⟨_,rfl,oM,rfl,Own.nil _ _ _,aj.refl _,by simp[aG]⟩,?_⟩
 rintro m j P p q _ C ⟨rfl,E,rfl,t,e,k⟩;refine al.mk (λf=>?_) (λf=>?_)
 ·have f:=XV f
  refine PC.ok (oK (h.af e)) ?_;rintro _ _ ⟨rfl,rfl⟩;refine⟨_,rfl,PC.ok (oK (n.af e)) ?_⟩;rintro _ _ ⟨rfl,rfl⟩;refine⟨_,rfl,PA.mk λF l H z=>?_⟩;refine Ns VX (t.af l) z (by unfold aR;omega) λI J K A B g=>?_;refine⟨_,_,_,rfl,_,?_,?_,oM,rfl,?_,(e.af l).new B ?_,?_⟩
  ·omega
  ·rw[wrap_i64 (by unfold aM;omega)];simp
  ·rw[KF,<-Vv];exact A
  ·intro s n;exact .inr (k s n.symm)
  ·intro s n
   rcases g with g|g
   ·exact k s (g▸n)
   ·rw[g]at n;cases n;have:=e.size;have:=l.size;omega
 ·have f:=Xy f
  have:P=max a c:=oM
  subst this;refine Ok.mk ⟨_,_,_,rfl,?_,e,k⟩;unfold kV;rw[<-v,<-w];exact t
def zB(n P:List Int):Nat->Int
 |0=>0
 |k+1=>if fU n k<fU P k then QI .i64 (zB n P k) 1 else if fU n k>fU P k then QI .i64 (zB n P k) 2 else zB n P k
def mU(n P:List Int):Int:=zB n P (max n.length P.length)
def Om(g:Ints b d a u)(h:Ints b s c b3):
  ba 193 #[.slice d a i,.slice s c o] b (Ok λq j=>q= WP (mU u b3)/\b=j):=by
 have r:=g.len;have t:=h.len;have v:=g.fe;have w:=h.fe;unfold aR at v w;refine Pa ⟨λl m p j=>∃n:Nat,p=n/\n<=max a c/\l=max a c-n/\m=zB u b3 n/\j=b,
  ⟨_,0,rfl,oM,rfl,rfl,rfl⟩,?_⟩
 rintro l m p _ x ⟨n,rfl,y,rfl,rfl,rfl⟩;refine al.mk (λf=>?_) (λf=>?_)
 ·have f:=XV f
  refine PC.ok (oK g) ?_;rintro _ _ ⟨rfl,rfl⟩;refine⟨_,rfl,PC.ok (oK h) ?_⟩;rintro _ _ ⟨rfl,rfl⟩;have k:GT .i64 ((n:Int)+1)=((n+1:Nat):Int):=by rw[wrap_i64 (by unfold aM;omega)];simp
  refine⟨_,rfl,al.mk (λP=>?_) (λP=>al.mk (λe=>?_) (λe=>?_))⟩
  ·have P:=XV P
   exact⟨_,oM,n+1,k,oM,rfl,by simp[zB,P],rfl⟩
  ·have P:=Xy P
   have e:=XV e;exact⟨_,oM,n+1,k,oM,rfl,by simp[zB,P,e],rfl⟩
  ·have P:=Xy P
   have e:=Xy e;exact⟨_,oM,n+1,k,oM,rfl,by simp[zB,P,e],rfl⟩
 ·have f:=Xy f
  have:n=max a c:=oM
  subst this;exact Ok.mk ⟨by unfold mU;rw[<-r,<-t],rfl⟩
structure kU where
 bO:Int
 mQ:Int
 lX:Int
 least:Int
 deriving DecidableEq
structure bB where
 kind:Int
 eI:Int
 floor:Bool
 bH:List kU
 deriving DecidableEq
structure jU where
 aZ:Int
 field:Int
 group:Int
 Gk:Int
 make:Int
 deriving DecidableEq
structure aT where
 types:List (List bB)
 projs:List jU
 deriving DecidableEq
structure lE where
 aZ:Int
 agg:Int
 field:Int
 op:Int
 arg:Int
 expect:Int
 key:Int
 deriving DecidableEq
structure dd where
 n:Int
 set:List Int
 deriving DecidableEq
structure pA where
 version:Int
 cells:List dd
 deriving DecidableEq
structure cZ where
 ev:ah
 void:Bool
 Gk:Int×Int
structure ej where
 group:Int
 value:Int
 count:Int
 deriving DecidableEq
abbrev pU(n:Int):Int:=GT .i64 n
def within(n P a:Int):Bool:=decide (P<=n)&&decide (n<=a)
def aT.at(n:aT)(P:Int):List bB:=if within P 0 (n.types.length-1)then n.types.getD P.toNat []else []
def aT.Em(n:aT)(P a:Int):Option bB:=
 if within P 0 (n.types.length-1)&&within a 0 ((n.at P).length-1)then(n.at P)[a.toNat]? else none
def rJ(n:Int):Int:=if n=1 then 1 else if n=2 then 2 else if n=3 then 3 else if n=4 then 3 else if n=5 then 4 else 0
def lS(P:aT)(a b op arg:Int):Int:=match P.Em a b with
 |none=>8
 |some n=>if !within op 1 5||rJ op !=n.kind then 2 else if op==1&&arg==0||op==5&& !within arg 0 (n.bH.length-1)then 1 else 0
def sd(n:aT):Bool:=
 if !within n.types.length 1 8||decide (8<n.projs.length)then true else
 n.types.any λa=>!within a.length 1 8||a.any λP=>if P.kind==4 then !within P.bH.length 1 16 else decide (0<P.bH.length)
def TK(P:List bB)(a n:Int):Bool:=within a 0 (P.length-1)&&((P[a.toNat]?).map (·.kind)==some n)
def WO(n P:Int):Bool:=P==1||P==2&&within n 2 4||P==3&&n==2
def fI(n:List bB)(f:bB):Int:=
 if !within f.kind 1 4 then 2 else if !within f.eI 1 3|| !WO f.kind f.eI||f.floor&&f.kind !=1 then 1 else
 if f.bH.any λm=>decide (m.bO<0)||decide (m.mQ<0)||m.lX== -1&&m.least !=0 then 1 else
 if f.bH.any λm=>m.lX != -1&& !TK n m.lX 1 then 8 else 0
def mN(P:aT)(n:jU):Int:=
 if(P.Em n.aZ n.field).isNone then 8 else
 if n.group==3&& !TK (P.at n.aZ) n.Gk 2||n.group !=3&&n.Gk !=0 then 8 else
 if !within n.group 1 3|| !within n.make 1 5 then 2 else 0
def cD{P:Type}(n:P->Int):List P->Int
 |[]=>0
 |x::a=>if n x !=0 then n x else cD n a
def dm(n:aT):Int:=
 if sd n then 3 else
 let P:=cD (λa=>cD (fI a) a) n.types
 if P !=0 then P else cD (mN n) n.projs
def bd(n:ah):Int×Int:=(n.origin,n.seq)
def eS(a n:ah):Bool:=decide (a.aB<n.aB)||a.aB==n.aB&&(decide (a.origin<n.origin)||a.origin==n.origin&&decide (a.seq<n.seq))
def tv(n P:ah):Int:=if eS n P then-1 else if eS P n then 1 else 0
def cQ(n:ah)(P:Nat):Int:=
 if n.origin<0\/(P:Int)<=n.origin\/min n.seq n.aB<1\/min n.agg n.key<0\/n.aN.length≠P\/n.aN.any (λa=>decide (a<0))then 1 else
 if n.aN.getD n.origin.toNat 0≠pU (n.seq-1)then 9 else
 if n.op<1\/5<n.op then 2 else if min n.aZ n.field<0\/8<=n.aZ\/8<=n.field then 8 else 0
def BW(n P:ah):Bool:=decide (n.seq<=fU P.aN n.origin)
def vW(n P:ah):Bool:=bd n !=bd P&& !BW n P&& !BW P n
structure aw where
 n:Nat
 l:List ah
def dN(n:ah):List ah->List ah
 |[]=>[n]
 |x::P=>if eS n x then n::x::P else x::dN n P
def aw.GB(n:aw)(P:Nat):Nat:=n.l.countP λa=>a.origin==(P:Int)
def aw.vec(n:aw):List Int:=(List.range n.n).map λP=>(n.GB P:Int)
def aw.get(n:aw)(id:Int×Int):Option ah:=n.l.find? λP=>bd P==id
def aw.top(n:aw):Int:=n.l.foldl (λP a=>max P a.aB) 0
def aw.mR(d:aw)(n:ah)(a:Nat):Bool:=
 let b:=n.aN.getD a 0
 b==0||match d.get (a,b)with
  |none=>false
  |some P=>decide (P.aB<n.aB)&&(List.range P.aN.length).all λc=>decide (P.aN.getD c 0<=n.aN.getD c 0)
def aw.add(n:aw)(P:ah):Int×aw:=
 let no:=cQ P n.n
 if no≠0 then(no,n)else
 if(n.get (bd P)).isSome then(16,n)else
 if P.seq≠(n.vec.getD P.origin.toNat 0)+1 then(9,n)else
 if(List.range n.n).any λa=>!n.mR P a then(9,n)else(0,{n with l:=dN P n.l})
def aw.eC(n:aw)(l:List ah):aw:=l.foldl (λn P=>(n.add P).2) n
def aw.missing(a:aw)(b:List Int)(n:Int):List ah:=(a.l.filter λP=>decide (max 0 (fU b P.origin)<P.seq)).take (max 0 n).toNat
def aw.keyed(n:aw)(key:Int):Option ah:=n.l.find? λP=>key !=0&&P.key==key
def ef(n:List bB):List dd:=n.map λ_=>⟨0,[]⟩
def Nv(n P:Int):Bool:=decide (n<pU (n+P))==decide (0<P)
def xm(e:List bB)(c:List dd)(n b arg:Int):Int:=
 let d:=e.getD n.toNat ⟨0,0,false,[]⟩
 let P:=c.getD n.toNat ⟨0,[]⟩
 let f:Bool:=
  if b=1 then(arg==0||Nv P.n arg)&& !(d.floor&&decide (pU (P.n+arg)<0))
  else if b=3 then decide (arg∈P.set)||decide (P.set.length<64)
  else if b=5 then(let a:=d.bH.getD arg.toNat ⟨0,0,0,0⟩;P.n==a.bO&&(decide (a.lX<0)||decide (a.least<=(c.getD a.lX.toNat ⟨0,[]⟩).n)))
  else true
 if f then 0 else 10
def qK(n:Int):List Int->List Int
 |[]=>[n]
 |y::P=>if n<y then n::y::P else if n=y then y::P else y::qK n P
def TX(c:List bB)(a:List dd)(n b arg:Int):List dd:=
 let d:=c.getD n.toNat ⟨0,0,false,[]⟩
 let P:=a.getD n.toNat ⟨0,[]⟩
 if b=1 then a.set n.toNat {P with n:=pU (P.n+arg)}
 else if b=2 then a.set n.toNat {P with n:=arg}
 else if b=3 then a.set n.toNat {P with set:=qK arg P.set}
 else if b=4 then a.set n.toNat {P with set:=P.set.filter λe=>e !=arg}
 else if b=5 then a.set n.toNat {P with n:=(d.bH.getD arg.toNat ⟨0,0,0,0⟩).mQ}
 else a
def eW(P:bB)(a n:Int×Int):Bool:=
 if P.kind=2 then a.1==2&&n.1==2&&a !=n
 else if P.kind=4 then a.1==5&&n.1==5&&a !=n
 else if P.kind=3 then a==(3,n.2)&&n==(4,a.2)||a==(4,n.2)&&n==(3,a.2)
 else false
def ng(f:bB)(n P:ah):Bool:=(f.eI==2||f.eI==3&&decide (P.arg<n.arg))&&eW f (n.op,n.arg) (P.op,P.arg)&&vW n P
structure bf where
 decl:aT
 entries:List cZ
 eR:List ((Int×Int)×pA)
 done:List ((Int×Int×Int)×List ah)
def bf.new(n:aT):bf:=⟨n,[],[],[]⟩
def bf.try(P:bf)(n:ah):Bool×(Int×Int)×bf:=
 if lS P.decl n.aZ n.field n.op n.arg≠0 then(true,(0,0),P)else
 let c:=P.decl.at n.aZ
 let b:=(n.aZ,n.agg,n.field)
 match((an P.done b).getD []).find? λe=>ng (c.getD n.field.toNat ⟨0,0,false,[]⟩) e n with
 |some e=>(true,bd e,P)
 |none=>
  let d:=an P.eR (n.aZ,n.agg)
  let a:=match d with
   |some d=>d.cells
   |none=>ef c
  if xm c a n.field n.op n.arg≠0 then(true,(0,0),P)else
  (false,(0,0),{P with
   eR:=aJ P.eR (n.aZ,n.agg) ⟨pU ((d.getD ⟨0,[]⟩).version+1),TX c a n.field n.op n.arg⟩
   done:=aJ P.done b ((an P.done b).getD []++[n])})
def bf.add(b:bf)(P:ah):cZ×bf:=
 let n:=b.try P
 let a:cZ:=⟨P,n.1,n.2.1⟩
 (a,{n.2.2 with entries:=n.2.2.entries++[a]})
def bf.state(n:bf)(P a:Int):Option pA:=an n.eR (P,a)
def bZ(n:aT)(P:List ah):bf:=P.foldl (λa b=>(a.add b).2) (bf.new n)
def lq(b:List cZ)(c P d:Int)(n:Nat):List cZ×Bool:=
 let own:=(b.filter λa=>a.ev.aZ==c&&a.ev.agg==P).drop (max d 0).toNat
 (own.take n,decide (n<own.length))
def oB(b:List ej)(n:Int)(P:Nat):List ej×Bool:=
 let a:=b.dropWhile λc=>decide (c.group<=n)
 (a.take P,decide (P<a.length))
def jZ(P:aT)(n:lE):Int:=if n.agg<0\/n.key<0\/n.expect< -1 then 1 else lS P n.aZ n.field n.op n.arg
def aX(P:lE)(n:Int)(a:List Int)(b:Int):Int×ah:=
 let no:ah:=⟨0,0,0,[],0,0,0,0,0,0⟩
 if n<0\/(a.length:Int)<=n\/b<0 then(1,no)else
 if fU a n=9223372036854775807\/b=9223372036854775807 then(13,no)else
 (0,⟨n,fU a n+1,b+1,kV a [],P.aZ,P.agg,P.field,P.op,P.arg,P.key⟩)
def gD(d:aT)(b:aw)(h:bf)(P start:Int)(n:lE):ah×Bool×Int:=
 let no:ah:=⟨0,0,0,[],0,0,0,0,0,0⟩
 let e:=jZ d n
 if e≠0 then(no,false,e)else
 match b.keyed n.key with
 |some i=>(i,false,0)
 |none=>
  let f:=d.at n.aZ
  let g:=h.state n.aZ n.agg
  let a:=match g with
   |some j=>j.cells
   |none=>ef f
  if¬(n.expect= -1\/n.expect=(g.getD ⟨0,[]⟩).version)then(no,false,11)else
  if xm f a n.field n.op n.arg≠0 then(no,false,10)else
  let c:=aX n P b.vec (max b.top start)
  (c.2,decide (c.1=0),c.1)
structure dR where
 p:jU
 rows:List (Int×ej)
def mL(n:jU)(P:ej)(arg:Int):Int:=
 if n.make=1 then P.count else if n.make=2 then pU (P.value+arg)else
 if n.make=5\/P.count=1/\(n.make=3\/n.make=4)then arg else
 if n.make=3 then min P.value arg else if n.make=4 then max P.value arg else 0
def dR.add(n:dR)(e:cZ)(b:Int):dR:=
 let a:=if n.p.group=1 then some e.ev.agg else if n.p.group=2 then some e.ev.arg else if n.p.group=3 then some b else none
 match a with
 |none=>n
 |some a=>
  if e.void||e.ev.aZ !=n.p.aZ||e.ev.field !=n.p.field then n else
  let P:=(an n.rows a).getD ⟨0,0,0⟩
  let P:ej:=⟨a,P.value,pU (P.count+1)⟩
  {n with rows:=aJ n.rows a ⟨a,mL n.p P e.ev.arg,P.count⟩}
def nn(n:ej):List ej->List ej
 |[]=>[n]
 |y::P=>if n.group<y.group then n::y::P else y::nn n P
def dR.list(n:dR):List ej:=(n.rows.map (·.2)).foldr nn []
structure kO where
 view:bf
 rows:List dR
def kO.new(n:aT):kO:=⟨bf.new n,n.projs.map λP=>⟨P,[]⟩⟩
def tr(n:Option pA)(P:jU):Int:=match n with
 |none=>0
 |some n=>((n.cells[P.Gk.toNat]?).map (·.n)).getD 0
def kO.add(a:kO)(n:ah):kO:=
 let P:=a.view.add n
 let c:=P.2.state n.aZ n.agg
 ⟨P.2,a.rows.map λb=>b.add P.1 (tr c b.p)⟩
def eB(n:aT)(P:List ah):kO:=P.foldl kO.add (kO.new n)
def eT(n:Nat)(P:List ah)(a:ah):Bool×List ah:=
 if n<=P.length\/P.any (λb=>bd b==bd a)then(false,P)else(true,dN a P)
def dO(n:aw):List ah->Option (ah×aw×List ah)
 |[]=>none
 |e::a=>if(n.add e).1=0 then some (e,(n.add e).2,a)else(dO n a).map λP=>(P.1,P.2.1,e::P.2.2)
def dq:Nat->aw->List ah->List ah->List ah×List ah
 |0,a,P,n=>(n,P)
 |k+1,a,P,n=>match dO a P with
  |none=>(n,P)
  |some (b,c,d)=>dq k c d (n++[b])
def bG(P:aw)(n:List ah):List ah×List ah:=
 let n:=n.filter λa=>(P.get (bd a)).isNone
 dq (n.length+1) P n []
structure bW where
 kind:Int
 bO:Int
 mQ:Int
 vec:List Int
 events:List ah
def gw(n:bW)(P:Int):Int:=if 0<n.events.length then 8 else if(n.vec.length:Int)≠P then 1 else if n.vec.any (λa=>decide (a<0))then 1 else 0
def eA(P:bW)(a:Nat)(n:Int):Int:=if 0<P.vec.length then 8 else if P.events.length<1\/n<(P.events.length:Int)then 3 else cD (λb=>cQ b a) P.events
def ei(m:bW)(a:Nat)(P:Int):Int:=
 let n:=!(decide (0<=m.bO)&&decide (m.bO<a))|| !(decide (0<=m.mQ)&&decide (m.mQ<a))||m.bO==m.mQ
 if m.kind=3 then(if n then 1 else eA m a P)
 else if m.kind=1\/m.kind=2\/m.kind=4 then(if n then 1 else gw m a)
 else 2
def lk(n:aw)(P a:Int):bW:=⟨1,P,a,n.vec,[]⟩
def Au(n:aw)(P a:Int):bW:=⟨4,P,a,n.vec,[]⟩
def my(c:aw)(n:Int)(P:bW)(a:Int):List bW:=
 if P.kind≠1/\P.kind≠2 then []else
 let d:=c.missing P.vec (max 1 (min a 32))
 let f:List bW:=if 0<d.length then [⟨3,n,P.bO,[],d⟩]else []
 let e:=mU P.vec c.vec
 let g:List bW:=if P.kind=1/\(e=2\/e=3)then [⟨2,n,P.bO,c.vec,[]⟩]else []
 let b:=f++g
 if b.isEmpty then [Au c n P.bO]else b
def Hk:(if l<e then l else e)=min e l:=oM
def Uw{D:RK}(i:Row aP 8 b D d a u):
  ba 184 #[.slice d a c,.func (.func 183) #[] #[]] b (Ok λg n=>g= .bool (u.any λP=>decide (P<0))/\b=n):=by
 have w:=i.len;have q:=i.fe;unfold aR at q;refine j_ (PC.ok (φ:=λg n=>(∃f:Int,g= WP f/\(0<=f↔(u.any λP=>decide (P<0))=true))/\b=n) (lI ⟨λl f n=>∃e:Nat,f=e/\e<=a/\l=a-e/\((u.take e).any λP=>decide (P<0))=false/\b=n,
  ⟨_,0,rfl,Qj _,rfl,sM,rfl⟩,?_⟩) ?_)
 ·rintro l f _ _ ⟨e,rfl,x,rfl,j,rfl⟩
  refine al.dec (λr=>?_) (λr=>?_)
  ·obtain⟨s,k,m,rfl,o,_,t⟩:=i.ns (i:=e) oM
   refine⟨s,k,rfl,oM,oM,_,t,183,_,_,rfl,kR,PC.ok (φ:=λg n=>g= .bool (decide (m<0))/\b=n) (Ac (Ok.mk ⟨rfl,rfl⟩)) ?_⟩;rintro _ _ ⟨rfl,rfl⟩;refine⟨_,rfl,al.dec (λp=>?_) (λp=>?_)⟩
   ·exact Ok.mk ⟨⟨_,rfl,λ_=>List.any_eq_true.2 ⟨m,QZ o,by simpa using p⟩,λ_=>oM⟩,rfl⟩
   ·refine⟨_,oM,e+1,aq oM,oM,rfl,?_,rfl⟩
    rw[Qw,o,List.any_append,j];simp;omega
  ·rw[Qz oM]at j
   exact Ok.mk ⟨⟨_,rfl,λh=>oM,λh=>by rw[j]at h;cases h⟩,rfl⟩
 ·rintro _ _ ⟨⟨f,rfl,v⟩,rfl⟩
  exact⟨_,rfl,Ok.mk ⟨by cases h:(u.any λP=>decide (P<0))<;>simp[h]at v⊢<;>omega,rfl⟩⟩
def yQ{D:RK}(k:Row aP 8 b D d a m.aN)(I:i<4611686018427387904):
  ba 113 #[.agg (aI m d a c).toArray,WP (i:Int)] b (Ok λh j=>h= WP (cQ m i)/\ai b j):=by
 have J:=k.len;have x:=k.fe;unfold aR at x;refine BM (PA.mk λy l K f=>⟨_,ae f rfl,?_⟩);have e:(m.origin<0\/(i:Int)<=m.origin\/min m.seq m.aB<1\/min m.agg m.key<0\/m.aN.length≠i\/m.aN.any (λp=>decide (p<0))=true)->Ok (λh j=>h= WP (cQ m i)/\ai b j) (.returned (WP 1)) y:=λn=>by
  refine Ok.mk ⟨?_,l⟩;unfold cQ;rw[Zx n]
 refine al.dec (λn=>e (.inl n)) λL=>⟨_,ae f rfl,al.dec (λn=>e (.inr (.inl n))) λM=>⟨_,ae f rfl,_,ae f rfl,?_⟩⟩
 rw[Hk];refine al.dec (λn=>e (.inr (.inr (.inl n)))) λN=>⟨_,ae f rfl,_,ae f rfl,?_⟩
 rw[Hk];refine al.dec (λn=>e (.inr (.inr (.inr (.inl n))))) λO=>⟨_,_,_,ae f rfl,al.eK (λn=>e (.inr (.inr (.inr (.inr (.inl oM)))))) λQ=>⟨_,_,_,ae f rfl,PC.ok (Uw (k.af l)) ?_⟩⟩
 rintro _ _ ⟨rfl,rfl⟩;refine⟨_,rfl,al.mk (λn=>e (.inr (.inr (.inr (.inr (.inr n)))))) λz=>⟨_,_,_,ae f rfl,_,ae f rfl,?_⟩⟩;obtain⟨A,q,B,rfl,C,R,E⟩:=(k.af l).ns (i:=m.origin.toNat) oM;have t:¬(m.origin<0\/(i:Int)<=m.origin\/min m.seq m.aB<1\/min m.agg m.key<0\/m.aN.length≠i\/m.aN.any (λp=>decide (p<0))=true):=by
  rw[z];simp only[Bool.false_eq_true,or_false,not_or];omega
 refine⟨A,q,rfl,oM,oM,_,E,_,ae f rfl,λu v=>?_⟩;have F:ai b u:=l.then v.keep;have g:=(bw.keep (S:=λ_=>False) v).get f id;have w:m.aN.getD m.origin.toNat 0=B:=by rw[QQ,C];rfl
 have P:∀r:Int,cQ m i=r->Ok (λh j=>h= WP (cQ m i)/\ai b j) (.returned (WP r)) u:=λr n=>Ok.mk ⟨by rw[n],F⟩;refine al.eK (λn=>P 9 (by unfold cQ;rw[Zq t,w,Zx n])) λH=>⟨_,ae g rfl,?_⟩
 have s:cQ m i=if m.op<1\/5<m.op then 2 else if min m.aZ m.field<0\/8<=m.aZ\/8<=m.field then 8 else 0:=by
  unfold cQ;rw[Zq t,w,Zq (by simpa using H)]
 refine al.dec (λn=>P 2 (by rw[s,Zx (.inl n)])) λS=>⟨_,ae g rfl,al.dec (λn=>P 2 (by rw[s,Zx (.inr n)])) λT=>⟨_,ae g rfl,_,ae g rfl,?_⟩⟩
 rw[Hk];have o:cQ m i=if min m.aZ m.field<0\/8<=m.aZ\/8<=m.field then 8 else 0:=by rw[s,Zq oM]
 refine al.dec (λn=>P 8 (by rw[o,Zx (.inl n)])) λU=>⟨_,ae g rfl,al.dec (λn=>P 8 (by rw[o,Zx (.inr (.inl n))])) λV=>⟨_,ae g rfl,al.dec (λn=>P 8 (by rw[o,Zx (.inr (.inr n))])) λW=>P 0 (by rw[o,Zq oM])⟩⟩
end
end Go.Proofs.YtjgjkeponbeekaaGreatDoor
namespace Go.ar
open Go
def YP(P n:Value):Bool:=match P with
 | .int a _=>match n with
  | .int b _=>decide (b=a)
  |_=>false
 | .bool _=>match n with
  | .bool _=>true
  |_=>false
 | .string _=>match n with
  | .string _=>true
  |_=>false
 | .slice _ _ _=>match n with
  | .slice _ _ _=>true
  |_=>false
 | .pointer _=>match n with
  | .pointer _=>true
  |_=>false
 | .map _=>match n with
  | .map _=>true
  |_=>false
 |_=>true
def Xe:List Value->List Value->Bool
 |[],[]=>true
 |z::n,P::a=>YP z P&&Xe n a
 |_,_=>false
def UJ(z n:Value):Bool:=match z with
 | .agg P=>match n with
  | .agg cs=>Xe P.toList cs.toList
  |_=>false
 |z=>YP z n
variable{p:Array Value}{a c:Nat}{F:Nat×Nat}{h:Program}{g r:TypeId}{d1 x:Value}{Q:Value->Prop}{b:World}{z:ac}
def Tx{φ:Value->Prop}(P:YP x d1=true)(n:φ d1):QN x φ:=by
 unfold QN
 cases x<;>cases d1<;>simp[YP]at P<;>first
  |exact⟨_,n⟩
  |exact⟨_,_,_,n⟩
  |(subst P;exact⟨_,n⟩)
def Nj:∀{P cs:List Value} {φ:List Value->Prop},Xe P cs=true->φ cs->SC P φ
 |[],[],φ,_,a=>a
 |[],_::_,φ,n,_=>by simp[Xe]at n
 |_::_,[],φ,n,_=>by simp[Xe]at n
 |z::P,b::d,φ,n,a=>by
  simp only[Xe,QK]at n;exact Tx (φ:=λb=>SC P λc=>φ (b::c)) n.1 (Nj (φ:=λc=>φ (b::c)) n.2 a)
def cz(n:UJ x d1=true)(P:Q d1):sK x Q:=by
 unfold sK;split
 ·rename_i c
  cases d1<;>simp[UJ]at n
  rename_i cs;exact Nj (φ:=λa=>Q (.agg a.toArray)) n (by simpa using P)
 ·rename_i b
  refine Tx ?_ P
  cases x<;>first|exact n|exact Zz rfl (b _)
def zz{b:World}{c:Addr}{d:Prop}:∀{cs:List Value} {n:Nat},(∀P v,cs[P]? =some v->b.cell? (c.add (n+P))=some v)->d->i_ b c n cs d
 |[],n,_,a=>a
 |v::h,n,e,a=>⟨e 0 v rfl,zz (λP f g=>by have:=e (P+1) f (by simpa using g);rwa [show n+1+P=n+(P+1) by omega]) a⟩
def iM(n:Program)(P:TypeId)(cs:List Value):Bool:=uV n P&&(match dz n P with
 | .agg a=>Nat.beq (mJ n P) a.size&&Xe a.toList cs
 |_=>false)&&Nat.beq cs.length (mJ n P)&&cs.all Value.oneCell'
def Nk{cs:List Value}(e:iM h g cs=true)(i:∀P d,cs[P]? =some d->b.cell? ⟨a,c+P,none⟩=some d)(j:Q (.agg cs.toArray)):
  jq h g (.pointer (some ⟨a,c,none⟩)) b Q:=by
 simp only[iM,QK]at e;obtain⟨⟨⟨k,n⟩,m⟩,o⟩:=e;unfold jq;simp only[k]
 revert n
 cases dz h g<;>simp only[Bool.false_eq_true,false_implies]
 rename_i p;intro n;simp only[QK]at n;simp only[n.1];exact Nj (φ:=λf=>i_ b ⟨a,c,none⟩ 0 f (Q (.agg f.toArray))) n.2 (zz (λP d l=>by rw[Xz,Addr.add_lit];exact i P d l) j)
def au{cs:List Value}(n:iM h g cs=true)(P:b.heap[a]? =some (.cells cs.toArray r F))(c:Q (.agg cs.toArray)):
  jq h g (LL a) b Q:=Nk n (λe f d=>ae P (by rw[Xz];simpa using d)) c
def WT{cs:List Value}(d:iM h g cs=true)(e:b.heap[a]? =some (.cells p r F))(f:∀n P,cs[n]? =some P->p[c+n]? =some P)(i:Q (.agg cs.toArray)):
  jq h g (.pointer (some ⟨a,c,none⟩)) b Q:=Nk d (λn P j=>ae e (f n P j)) i
def cu{P a k:Nat}{es:List Value}(d:iM h g es=true)(e:es.length=k)(f:∀n,n<k->b.cell? ⟨P,a+n,none⟩=es[n]?)(i:Q (.agg es.toArray)):
  jq h g (.pointer (some ⟨P,a,none⟩)) b Q:=Nk d (λn j c=>by rw[f n (by rw[<-e];exact(Qv.1 c).1)];exact c) i
def Gf{b d:Nat}{g:TypeId}{h:ac}:∀(a:List Value) (P:Nat) {n:World} {cs:Array Value},n.heap[b]? =some (.cells cs g (0,0))->d+P+a.length<=cs.size->
  (∀c,aj (·=b) n c->c.heap.size=n.heap.size->c.heap[b]? =some (.cells (Dr cs (d+P) a) g (0,0))->h c)->jP ⟨b,d,none⟩ P a n h
 |[],P,n,cs,e,i,f=>f n (aj.refl _) rfl e
 |v::a,P,n,cs,e,i,f=>by
  unfold jP;rw[Addr.add_lit];rw[Xq]at i;exact PS.mk e oM λr j k l=>Gf a (P+1) l (by simp;omega) λm o p q=>f m (j.then o) (p.trans k) q
def Xf{cs:List Value}(P:iM h g cs=true)(d:b.heap[a]? =some (.cells p r (0,0)))(m:c+cs.length<=p.size)(e:∀n,aj (·=a) b n->n.heap.size=b.heap.size->n.heap[a]? =some (.cells (Dr p c cs) r (0,0))->z n):nw h g (.pointer (some ⟨a,c,none⟩)) (.agg cs.toArray) b z:=by
 simp only[iM,QK]at P;obtain⟨⟨⟨f,o⟩,i⟩,j⟩:=P;unfold nw;have k:Nat.beq cs.toArray.size (mJ h g)=true:=by simpa using i
 have l:cs.toArray.toList.all Value.oneCell'=true:=by simpa using j
 simp only[f,k,l];exact Gf cs 0 d oM e
def aD{cs:List Value}(P:iM h g cs=true)(c:b.heap[a]? =some (.cells p r (0,0)))(d:cs.length=p.size)(e:∀n,aj (·=a) b n->n.heap.size=b.heap.size->n.heap[a]? =some (.cells cs.toArray r (0,0))->z n):nw h g (LL a) (.agg cs.toArray) b z:=
 Xf P c oM λn f i j=>e n f i (by rw[j,Gc d])
end Go.ar
namespace Go.Proofs
open Go.Shelf
def Tryz.Qs:Go.Shelf.Ren:=⟨λ|6=>154|15=>218|14=>217|28=>276|29=>277|20=>268|21=>269|22=>270|23=>271|24=>272|25=>273|26=>274|27=>275|46=>316|47=>317|48=>318|49=>319|50=>320|57=>348|n=>n,λ|22=>59|24=>63|25=>260|3=>3|39=>324|0=>0|53=>365|55=>367|4=>4|46=>359|45=>358|50=>273|5=>5|9=>9|66=>400|70=>375|76=>426|77=>427|n=>n,λ|n=>n⟩
def Tryz.VY:Go.Proofs.SlLaysF0.n6 Tryz.prog Tryz.Qs:={
 mixed:=by kernel_rfl
 f6:=⟨Tryz.f154.name,be,Tryz.func154.trans bc⟩
 f14:=⟨Tryz.f217.name,be,Tryz.func217.trans bc⟩
 f15:=Tryz.func218.trans bc
 f20:=⟨Tryz.f268.name,be,Tryz.func268.trans bc⟩
 f21:=⟨Tryz.f269.name,be,Tryz.func269.trans bc⟩
 f22:=⟨Tryz.f270.name,be,Tryz.func270.trans bc⟩
 f23:=⟨Tryz.f271.name,be,Tryz.func271.trans bc⟩
 f24:=⟨Tryz.f272.name,be,Tryz.func272.trans bc⟩
 f25:=⟨Tryz.f273.name,be,Tryz.func273.trans bc⟩
 f26:=⟨Tryz.f274.name,be,Tryz.func274.trans bc⟩
 f27:=⟨Tryz.f275.name,be,Tryz.func275.trans bc⟩
 f28:=Tryz.func276.trans bc
 f29:=Tryz.func277.trans bc
 f46:=⟨Tryz.f316.name,be,Tryz.func316.trans bc⟩
 f47:=Tryz.func317.trans bc
 f48:=Tryz.func318.trans bc
 f49:=⟨Tryz.f319.name,be,Tryz.func319.trans bc⟩
 f50:=⟨Tryz.f320.name,be,Tryz.func320.trans bc⟩
 f57:=⟨Tryz.f348.name,be,Tryz.func348.trans bc⟩
 t0:=Tryz.underlying0
 a0:=Tryz.isAgg0
 z0:=Tryz.sizeOf0
 v0:=Tryz.zeroValue0
 t3:=Tryz.underlying3
 a3:=Tryz.isAgg3
 z3:=Tryz.sizeOf3
 v3:=Tryz.zeroValue3
 t4:=Tryz.underlying4
 a4:=Tryz.isAgg4
 z4:=Tryz.sizeOf4
 v4:=Tryz.zeroValue4
 t5:=Tryz.underlying5
 a5:=Tryz.isAgg5
 z5:=Tryz.sizeOf5
 v5:=Tryz.zeroValue5
 t9:=Tryz.underlying9
 a9:=Tryz.isAgg9
 z9:=Tryz.sizeOf9
 v9:=Tryz.zeroValue9
 t22:=Tryz.underlying59
 a22:=Tryz.isAgg59
 z22:=Tryz.sizeOf59
 v22:=Tryz.zeroValue59
 t25:=Tryz.underlying260
 a25:=Tryz.isAgg260
 z25:=Tryz.sizeOf260
 v25:=Tryz.zeroValue260
 t39:=Tryz.underlying324
 a39:=Tryz.isAgg324
 z39:=Tryz.sizeOf324
 v39:=Tryz.zeroValue324
 t45:=Tryz.underlying358
 a45:=Tryz.isAgg358
 z45:=Tryz.sizeOf358
 v45:=Tryz.zeroValue358
 t46:=Tryz.underlying359
 a46:=Tryz.isAgg359
 z46:=Tryz.sizeOf359
 v46:=Tryz.zeroValue359
 t50:=Tryz.underlying273
 a50:=Tryz.isAgg273
 z50:=Tryz.sizeOf273
 v50:=Tryz.zeroValue273
 t53:=Tryz.underlying365
 a53:=Tryz.isAgg365
 z53:=Tryz.sizeOf365
 v53:=Tryz.zeroValue365
 t55:=Tryz.underlying367
 a55:=Tryz.isAgg367
 z55:=Tryz.sizeOf367
 v55:=Tryz.zeroValue367
 t66:=Tryz.underlying400
 a66:=Tryz.isAgg400
 z66:=Tryz.sizeOf400
 v66:=Tryz.zeroValue400
 t70:=Tryz.underlying375
 a70:=Tryz.isAgg375
 z70:=Tryz.sizeOf375
 v70:=Tryz.zeroValue375
 t76:=Tryz.underlying426
 a76:=Tryz.isAgg426
 z76:=Tryz.sizeOf426
 v76:=Tryz.zeroValue426
 t77:=Tryz.underlying427
 a77:=Tryz.isAgg427
 z77:=Tryz.sizeOf427
 v77:=Tryz.zeroValue427}
def Tryz.Qt:Go.Shelf.Ren:=⟨λ|6=>406|15=>218|14=>408|28=>276|29=>277|20=>409|21=>410|22=>411|23=>412|24=>413|25=>414|26=>415|27=>416|46=>417|47=>317|48=>318|49=>418|50=>419|57=>420|n=>n,λ|22=>51|24=>135|25=>466|3=>3|39=>324|0=>0|53=>365|55=>367|4=>4|46=>359|45=>358|50=>273|5=>5|9=>9|66=>400|70=>375|76=>426|77=>427|n=>n,λ|n=>n⟩
def Tryz.VZ:Go.Proofs.SlLaysF0.n6 Tryz.prog Tryz.Qt:={
 mixed:=by kernel_rfl
 f6:=⟨Tryz.f406.name,be,Tryz.func406.trans bc⟩
 f14:=⟨Tryz.f408.name,be,Tryz.func408.trans bc⟩
 f15:=Tryz.func218.trans bc
 f20:=⟨Tryz.f409.name,be,Tryz.func409.trans bc⟩
 f21:=⟨Tryz.f410.name,be,Tryz.func410.trans bc⟩
 f22:=⟨Tryz.f411.name,be,Tryz.func411.trans bc⟩
 f23:=⟨Tryz.f412.name,be,Tryz.func412.trans bc⟩
 f24:=⟨Tryz.f413.name,be,Tryz.func413.trans bc⟩
 f25:=⟨Tryz.f414.name,be,Tryz.func414.trans bc⟩
 f26:=⟨Tryz.f415.name,be,Tryz.func415.trans bc⟩
 f27:=⟨Tryz.f416.name,be,Tryz.func416.trans bc⟩
 f28:=Tryz.func276.trans bc
 f29:=Tryz.func277.trans bc
 f46:=⟨Tryz.f417.name,be,Tryz.func417.trans bc⟩
 f47:=Tryz.func317.trans bc
 f48:=Tryz.func318.trans bc
 f49:=⟨Tryz.f418.name,be,Tryz.func418.trans bc⟩
 f50:=⟨Tryz.f419.name,be,Tryz.func419.trans bc⟩
 f57:=⟨Tryz.f420.name,be,Tryz.func420.trans bc⟩
 t0:=Tryz.underlying0
 a0:=Tryz.isAgg0
 z0:=Tryz.sizeOf0
 v0:=Tryz.zeroValue0
 t3:=Tryz.underlying3
 a3:=Tryz.isAgg3
 z3:=Tryz.sizeOf3
 v3:=Tryz.zeroValue3
 t4:=Tryz.underlying4
 a4:=Tryz.isAgg4
 z4:=Tryz.sizeOf4
 v4:=Tryz.zeroValue4
 t5:=Tryz.underlying5
 a5:=Tryz.isAgg5
 z5:=Tryz.sizeOf5
 v5:=Tryz.zeroValue5
 t9:=Tryz.underlying9
 a9:=Tryz.isAgg9
 z9:=Tryz.sizeOf9
 v9:=Tryz.zeroValue9
 t22:=Tryz.underlying51
 a22:=Tryz.isAgg51
 z22:=Tryz.sizeOf51
 v22:=Tryz.zeroValue51
 t25:=Tryz.underlying466
 a25:=Tryz.isAgg466
 z25:=Tryz.sizeOf466
 v25:=Tryz.zeroValue466
 t39:=Tryz.underlying324
 a39:=Tryz.isAgg324
 z39:=Tryz.sizeOf324
 v39:=Tryz.zeroValue324
 t45:=Tryz.underlying358
 a45:=Tryz.isAgg358
 z45:=Tryz.sizeOf358
 v45:=Tryz.zeroValue358
 t46:=Tryz.underlying359
 a46:=Tryz.isAgg359
 z46:=Tryz.sizeOf359
 v46:=Tryz.zeroValue359
 t50:=Tryz.underlying273
 a50:=Tryz.isAgg273
 z50:=Tryz.sizeOf273
 v50:=Tryz.zeroValue273
 t53:=Tryz.underlying365
 a53:=Tryz.isAgg365
 z53:=Tryz.sizeOf365
 v53:=Tryz.zeroValue365
 t55:=Tryz.underlying367
 a55:=Tryz.isAgg367
 z55:=Tryz.sizeOf367
 v55:=Tryz.zeroValue367
 t66:=Tryz.underlying400
 a66:=Tryz.isAgg400
 z66:=Tryz.sizeOf400
 v66:=Tryz.zeroValue400
 t70:=Tryz.underlying375
 a70:=Tryz.isAgg375
 z70:=Tryz.sizeOf375
 v70:=Tryz.zeroValue375
 t76:=Tryz.underlying426
 a76:=Tryz.isAgg426
 z76:=Tryz.sizeOf426
 v76:=Tryz.zeroValue426
 t77:=Tryz.underlying427
 a77:=Tryz.isAgg427
 z77:=Tryz.sizeOf427
 v77:=Tryz.zeroValue427}
def Tryz.Ni:Go.Shelf.Ren:=⟨λ|5=>279|7=>321|n=>n,λ|23=>267|25=>3|3=>135|4=>4|20=>20|n=>n,λ|n=>n⟩
def Tryz.WU:Go.Proofs.SlLaysW.n5 Tryz.prog Tryz.Ni:={
 mixed:=by kernel_rfl
 f5:=⟨Tryz.f279.name,be,Tryz.func279.trans bc⟩
 f7:=Tryz.func321.trans bc
 t4:=Tryz.underlying4
 a4:=Tryz.isAgg4
 z4:=Tryz.sizeOf4
 v4:=Tryz.zeroValue4
 t20:=Tryz.underlying20
 a20:=Tryz.isAgg20
 z20:=Tryz.sizeOf20
 v20:=Tryz.zeroValue20
 t23:=Tryz.underlying267
 a23:=Tryz.isAgg267
 z23:=Tryz.sizeOf267
 v23:=Tryz.zeroValue267}
end Go.Proofs
namespace Go.Proofs.YtjgjkeponbeekaaGreatDoor
open Go.ar Go.Sort
def bh(n:ah)(P:am)(a b:Nat):iM PP 63 (aI n P a b)=true:=kR
def sI(n:ah)(P:am)(a b:Nat):UJ (dz PP 63) (.agg (aI n P a b).toArray)=true:=kR
def G(n P:World):Prop:=∃a b,P=grow (n.drewN a) b
variable{B e l:Int}{d8:Int×Int}{h5:List ((Int×Int)×ah)}{H g2:List ah}{a c i o:Nat}{f:RK}{d2:Obj}{d s:am}{g:TypeId}{b b8 k:World}{z:ac}{N m:ah}{I:aw}
def G.then(d:G b k)(e:G k b8):G b b8:=by
 obtain⟨n,P,rfl⟩:=d;obtain⟨a,c,rfl⟩:=e;exact⟨n+a,P++c,by show grow (grow ((b.drewN n).drewN a) P) c=_;rw[grow_grow,World.drewN_drewN]⟩
def G.keep{S:RK}(n:G b k):aj S b k:=by
 obtain⟨d,P,rfl⟩:=n;refine⟨rfl,rfl,rfl,by simp[grow],λa c _=>?_⟩;show(b.heap++P)[a]? =_;rw[Array.getElem?_append_left c]
def G.drew(n:bw b k):G b k:=by obtain⟨P,rfl⟩:=n;exact⟨P,#[],sM⟩
def PA.Yz(P:∀n,G b n->n.heap.size=b.heap.size+1->n.heap[b.heap.size]? =some d2->z n):PA b d2 z:=
 P (b.alloc d2) ⟨0,#[d2],by rw[alloc_eq_grow];rfl⟩ sM (heap_alloc_new b d2)
def isNaN:ba 278 #[WP e] b (Ok λn P=>n= .bool false/\b=P):=Af (Ok.mk ⟨sM,rfl⟩)
def KE(n P:Int):Int:=if n<P then-1 else if P<n then 1 else 0
def ix:ba 220 #[WP e,WP l] b (Ok λa c=>a= WP (KE e l)/\b=c):=by
 refine vL (PC.ok isNaN ?_);rintro _ _ ⟨rfl,rfl⟩;refine⟨_,rfl,PC.ok isNaN ?_⟩;rintro _ _ ⟨rfl,rfl⟩;refine⟨_,rfl,al.ff rfl (al.ff rfl (al.dec (λn=>Ok.mk ⟨by unfold KE;rw[Zx n],rfl⟩) (λn=>al.dec (λP=>Ok.mk ⟨by unfold KE;rw[Zq n,Zx P],rfl⟩) (λP=>Ok.mk ⟨by unfold KE;rw[Zq n,Zq P],rfl⟩))))⟩
def On:List Int->Int
 |[]=>0
 |x::n=>if x≠0 then x else On n
def Ri(r:b.heap[a]? =some (.cells #[WP e,WP l,WP B] g (0,0))):
  ba 219 #[.slice (L1 a) 3 3] b (Ok λh d=>h= WP (On [e,l,B])/\b=d):=by
 refine GZ ⟨λk c d=>∃n:Nat,c=n/\n<=3/\k=3-n/\On [e,l,B]=On ([e,l,B].drop n)/\b=d,⟨_,0,rfl,oM,rfl,rfl,rfl⟩,?_⟩;rintro k c _ _ ⟨n,rfl,w,rfl,i,rfl⟩;refine al.dec (λs=>?_) (λs=>?_)
 ·have t:∀f:Int,[e,l,B][n]? =some f->∃m o,(L1 a:am)=some ⟨m,o,none⟩/\(0:Int)<=n/\(n:Int)<((3:Nat):Int)/\∃j:Int,b.cell? ⟨m,o+Int.toNat n,none⟩=some (WP j)/\al (j !=0) (Ok (λh d=>h= WP (On [e,l,B])/\b=d) (.returned (WP j)) b) (∃p,p<3-n/\∃c:Nat,GT .i64 ((n:Int)+1)=c/\c<=3/\p=3-c/\On [e,l,B]=On ([e,l,B].drop c)/\b=b):=by
   intro f P;have q:[e,l,B].drop n=f::[e,l,B].drop (n+1):=by
    rw[X4 (by simp;omega)];congr 1;simpa using(Qv.1 P).2
   refine⟨a,0,rfl,oM,oM,f,ae r ?_,al.eK (λu=>Ok.mk ⟨?_,rfl⟩) (λv=>⟨_,oM,n+1,aq oM,oM,rfl,?_,rfl⟩)⟩
   ·rw[Xz]
    match n,P with
    |0,P=>simp at P;simp[P]
    |1,P=>simp at P;simp[P]
    |2,P=>simp at P;simp[P]
    |n+3,P=>simp at P
   ·rw[i,q,On,Zx u]
   ·rw[i,q,On,Zq (by simpa using v)]
  have P:n<[e,l,B].length:=by simp;omega
  exact t [e,l,B][n] (by simp[P])
 ·obtain rfl:n=3:=oM
  exact Ok.mk ⟨by rw[i];rfl,rfl⟩
def Ir(n P:ah):On [KE n.aB P.aB,KE n.origin P.origin,KE n.seq P.seq]=tv n P:=by
 unfold tv eS KE On On On On
 by_cases d:n.aB<P.aB
 ·simp[d]
 by_cases g:P.aB<n.aB
 ·simp[d,g];omega
 have a:n.aB=P.aB:=oM
 by_cases e:n.origin<P.origin
 ·simp[a,e]
 by_cases h:P.origin<n.origin
 ·simp[a,e,h];omega
 have b:n.origin=P.origin:=oM
 by_cases c:n.seq<P.seq
 ·simp[a,b,c]
 by_cases f:P.seq<n.seq
 ·simp[a,b,c,f]
 ·simp[a,b,c,f]
def Dk:ba 155 #[.agg (aI m d a c).toArray,.agg (aI N s i o).toArray] b (Ok λh j=>h= WP (tv m N)/\G b j):=by
 refine xG (PA.Yz λt k u l=>PA.Yz λv f w p=>λx q=>⟨λ_=>False,?_⟩);have n:=G.drew q;have P:=(n.keep (S:=λ_=>False)).get ((f.keep (S:=λ_=>False)).get l id) id;have e:=(n.keep (S:=λ_=>False)).get p id;refine⟨_,ae P rfl,_,ae e rfl,id,_,ae P rfl,id,_,ae e rfl,id,_,ae P rfl,id,_,ae e rfl,PC.ok ix ?_⟩;rintro _ _ ⟨rfl,rfl⟩;refine⟨_,rfl,aj.refl _,PC.ok ix ?_⟩;rintro _ _ ⟨rfl,rfl⟩;refine⟨_,rfl,aj.refl _,PC.ok ix ?_⟩;rintro _ _ ⟨rfl,rfl⟩;refine⟨_,rfl,aj.refl _,PA.Yz λy g z r=>⟨g.keep,PC.ok (Ri r) ?_⟩⟩;rintro _ _ ⟨rfl,rfl⟩;exact⟨_,rfl,aj.refl _,Ok.mk ⟨by rw[Ir],((k.then f).then n).then g⟩⟩
structure Tu where
 e:ah
 a:am
 n:Nat
 c:Nat
instance:Inhabited Tu:=⟨⟨⟨0,0,0,[],0,0,0,0,0,0⟩,none,0,0⟩⟩
def encS(n:Tu):List Value:=aI n.e n.a n.n n.c
def Tv(P:Tu):∀a∈encS P,a.oneCell'=true:=by
 intro b n;simp only[encS,aI,Q2,List.not_mem_nil,or_false]at n;rcases n with rfl|rfl|rfl|rfl|rfl|rfl|rfl|rfl|rfl|rfl<;>rfl
def AN(n P:Tu):ltOf (λn P:Tu=>tv n.e P.e) n P=eS n.e P.e:=by
 unfold ltOf tv
 cases a:eS n.e P.e
 ·cases b:eS P.e n.e<;>simp[a,b]
 ·simp[a]
def jW:eS m N=true↔m.aB<N.aB\/m.aB=N.aB/\(m.origin<N.origin\/m.origin=N.origin/\m.seq<N.seq):=by simp[eS]
def vh:eS m N=false↔¬(m.aB<N.aB\/m.aB=N.aB/\(m.origin<N.origin\/m.origin=N.origin/\m.seq<N.seq)):=by rw[<-jW];simp
def YA:SWO (ltOf λn P:Tu=>tv n.e P.e) where
 irrefl n:=by rw[AN,vh];omega
 trans n P z h1 h2:=by rw[AN,jW]at*;omega
 ntrans n P z h1 h2:=by rw[AN,vh]at*;omega
def _root_.Go.ar.bL.evs{c:World}{D:RK}:∀{a:List ah} {cs:List Value},bL kY c D a cs->∃P:List Tu,P.map (·.e)=a/\cs=P.flatMap encS/\∀n∈P,Row aP 8 c D n.a n.n n.e.aN/\n.e.Ok
 |[],_,d=>⟨[],rfl,d,sM⟩
 |e::a,_,⟨r,s,f,⟨g,h,i,j,k,l⟩,m⟩=>by
  obtain⟨P,o,p,q⟩:=Go.ar.bL.evs m;refine⟨⟨e,g,h,i⟩::P,by simp[o],by rw[f,j,p];rfl,?_⟩;intro n b;rcases Q2.1 b with rfl|b
  ·exact⟨k,l⟩
  ·exact q n b
def _root_.Go.ar.bL.Tw{a:World}{D:RK}:∀{n:List Tu},(∀x∈n,Row aP 8 a D x.a x.n x.e.aN/\x.e.Ok)->bL kY a D (n.map (·.e)) (n.flatMap encS)
 |[],_=>rfl
 |x::n,P=>⟨encS x,n.flatMap encS,rfl,⟨x.a,x.n,x.c,rfl,(P x (QV ..)).1,(P x (QV ..)).2⟩,Go.ar.bL.Tw λb c=>P b (QJ _ c)⟩
def sj{n:List Tu}(P:a<n.length*10):(n.flatMap encS)[a]? =(encS n[a/10]!)[a % 10]? :=by
 induction n generalizing a with
 |nil=>simp at P
 |cons d n e=>
  have f:(encS d).length=10:=rfl;rw[List.flatMap_cons]
  by_cases b:a<10
  ·rw[XW oM,Nat.div_eq_of_lt b,Nat.mod_eq_of_lt b];rfl
  ·rw[X8 oM,f,e (by simp at P;omega)]
   obtain⟨c,rfl⟩:∃c,a=c+10:=⟨a-10,oM⟩
   rw[Nat.add_sub_cancel,Nat.add_div_right _ dC,Nat.add_mod_right];simp
def iD(n:List Tu):(n.flatMap encS).length=n.length*10:=by
 induction n with
 |nil=>rfl
 |cons P n a=>rw[List.flatMap_cons,QX,a];have b:(encS P).length=10:=rfl;rw[b];simp;omega
def Dp(n:List Tu):(flatK encS 10 n.toArray).toList=n.flatMap encS:=by
 apply X3;intro P
 by_cases a:P<n.length*10
 ·rw[sj a]
  have d:P<(flatK encS 10 n.toArray).size:=by simpa using a
  have b:=get_flatK encS 10 n.toArray P (by simpa using a);rw[getElem!_pos _ P d]at b;have e:(encS n[P/10]!).length=10:=rfl;have c:P % 10<(encS n[P/10]!).length:=by rw[e];omega
  rw[Qq (by simpa using a),Qq c]
  congr 1
  rw[Array.getElem_toList,b];rw[getElem!_pos _ _ (by simpa using c)]
  congr 1
  simp
 ·rw[Q7 (by simpa using a),Q7 (by rw[iD];omega)]
def Dh(n:List ah):Prop:=n.Pairwise λP a=>eS a P=false
def KB(l:aU kY 63 f b d a c H)(t:H.length<=20000000):
  ba 154 #[.slice d a c,.func (.func 155) #[] #[]] b (Ok λM u=>M= .tuple #[]/\∃A,A.Perm H/\Dh A/\aU kY 63 f u d a c A/\aj (λm=>aG d=some m) b u):=by
 obtain⟨cs,D,B,Z,N⟩:=l.body;obtain⟨P,C,rfl,a4⟩:=Z.evs;have E:=l.len dC;have v:P.length=a:=by rw[E,<-C];simp
 rcases B.cases with⟨rfl,rfl,rfl,h0⟩|⟨g,i,rfl,w,O,F,Q⟩
 ·have hd:P=[]:=QW v
  refine(AnyF.slices_SortFunc_none Tryz.VY none 0 _ b).mono ?_;rintro p u ⟨rfl,rfl⟩;exact Ok.mk ⟨rfl,H,List.Perm.refl _,by rw[<-C,hd];exact List.Pairwise.nil,l,aj.refl _⟩
 ·have R:kY.k=10:=rfl
  rw[R]at Q F;have a5:flatK encS 10 P.toArray=(P.flatMap encS).toArray:=by rw[<-Dp]
  have hH:HoldsK encS 10 b g 0 P.toArray:=by
   intro j q;rw[size_flatK]at q;simp only[List.size_toArray]at q;have S:j<(P.flatMap encS).length:=by rw[iD];exact q
   refine⟨?_,by simp[World.frozen?,w]⟩;have k:(flatK encS 10 P.toArray)[j]! =(P.flatMap encS)[j]:=by
    rw[a5,getElem!_pos _ j (by simpa using S)];simp
   rw[k,Xz];refine ae w ?_;have h:(i.toList.take (a*10))[j]? =some (P.flatMap encS)[j]:=by rw[Q];exact Qq S
   rw[Xw,Zx oM]at h;simpa using h
  have t:=B.row;have I:c<=maxLen:=by
   obtain⟨_,a0,_,T,_,_,_,I,_⟩:=B.row.2.resolve_left (by rintro⟨l,_⟩;cases l);simp only[XX]at T;rw[T.2.2];exact I
  have a6:P.toArray.size<4611686018427387904:=by
   simp only[List.size_toArray,v];omega
  have U:=AnyQ.slices_SortFunc Tryz.VY 10 (λb=>dI _ _ _ kR ⟨_,Tryz.underlying63⟩ b) (λb=>Tryz.sizeOf63 b) encS (λ_=>rfl) Tv (λx V=>tv x.e V.e) YA 155 #[] g 0 c P.toArray b
   (enters_of Tryz.func155 kR rfl) (λb0 r dk b1 x V=>(Dk).mono ?_) hH (aA w) a6
  ·rw[show P.toArray.size=a by simpa using v]at U
   refine U.mono ?_;rintro p u ⟨rfl,e,y,r,hp,hs,rfl⟩;obtain⟨p1,p2,W⟩:=hp;have n:e.size=a:=p1.trans (by simpa using v);have X:e.toList.Perm P:=by
    have k:e.extract 0 a=e:=by rw[<-n];exact Array.extract_size
    have h:P.toArray.extract 0 a=P.toArray:=by rw[show a=P.toArray.size by simpa using v.symm];exact Array.extract_size
    rw[k,h]at W;exact W
   have a1:flatK encS 10 e=(e.toList.flatMap encS).toArray:=by rw[<-Dp]
   have J:(sortWorldK encS 10 b g 0 y e r).heap[g]? =some (.cells (putCells id 0 (flatK encS 10 e) i) 63 (0,0)):=by
    have a7:=aA w;show((Sort.ahead b y).heap.modify g _++r)[g]? =_;rw[Array.getElem?_append_left (by simpa[Sort.ahead]using a7),Array.getElem?_modify,Zx rfl];show Option.map _ b.heap[g]? =_;rw[w];rfl
   have z:aj (λm=>aG (L1 g)=some m) b (sortWorldK encS 10 b g 0 y e r):=by
    refine⟨rfl,rfl,rfl,?_,λa2 z E=>?_⟩
    ·show b.heap.size<=((Sort.ahead b y).heap.modify g _++r).size
     simp[Sort.ahead]
    ·show((Sort.ahead b y).heap.modify g _++r)[a2]? =_
     rw[Array.getElem?_append_left (by simpa[Sort.ahead]using z),Array.getElem?_modify,Zq (λp=>E (by rw[p];rfl))]
     rfl
   have a3:(putCells id 0 (flatK encS 10 e) i).size=c*10:=by unfold putCells;rw[Array.size_mapIdx];exact F
   refine Ok.mk ⟨rfl,e.toList.map (·.e),by rw[<-C];exact X.map _,?_,⟨⟨e.toList.flatMap encS,D,⟨⟨?_,.inr ⟨g,c,_,rfl,Qj _,J,O,I,a3,?_⟩⟩⟩,bL.Tw λx hx=>?_,N⟩,l.self,λm t=>Qk (l.aF m t) z.size⟩,z⟩
   ·unfold Dh
    rw[List.pairwise_map,List.pairwise_iff_getElem];intro Y j hi q a8;have k:=hs Y j (Qj _) a8 (by simpa[n]using q);rw[AN,getElem!_pos _ j (by simpa using q),getElem!_pos _ Y (by simpa using hi)]at k;simpa using k
   ·rw[iD,XK,n];rfl
   ·apply X3
    intro s;rw[R,Xw];split
    ·rename_i o
     rw[sj (by rw[XK,n];exact o),<-sj (by rw[XK,n];exact o)];unfold putCells;have a9:s<i.size:=by rw[F];exact Qk o (Q0 _ O)
     rw[Array.getElem?_toList,Array.getElem?_mapIdx,X6 a9];simp only[Option.map_some];have K:s<(flatK encS 10 e).size:=by rw[size_flatK,n];exact o
     rw[Zx ⟨Qj _,by rw[Xz];exact K⟩,Nat.sub_zero,getElem!_pos _ s K];have:(flatK encS 10 e)[s]=(e.toList.flatMap encS)[s]'(by rw[iD,XK,n];exact o):=by
      have h:=Zj (·[s]?) a1;simp only[List.getElem?_toArray]at h;rw[X6 K,Qq (by rw[iD,XK,n];exact o)]at h;exact XJ h
     rw[this];exact(Qq _).symm
    ·rename_i o
     rw[Q7 (by rw[iD,XK,n];omega)]
   ·have L:x∈P:=X.mem_iff.1 hx
    obtain⟨k,h⟩:=a4 x L;exact⟨k.keep z λm t p=>(N m t).2 p,h⟩
  ·rintro p u ⟨M,rfl,rfl,hG⟩
   exact⟨rfl,hG⟩
open Go.ar
abbrev Wd(n:List ah):Prop:=n.Pairwise λP a=>eS P a=true
structure aw.OK (S:aw):Prop where
 n:S.n<=64
 Rj:Wd S.l
 ids:(S.l.map bd).Nodup
 YH:∀e∈S.l,cQ e S.n=0
 ok:∀e∈S.l,e.Ok
def Gw(P:bd m≠bd N):eS m N=true\/eS N m=true:=by
 rw[jW,jW];have:¬(m.origin=N.origin/\m.seq=N.seq):=λn=>P (by unfold bd;rw[n.1,n.2]);omega
def tY{n P a:ah}(b:eS n P=true)(c:eS P a=true):eS n a=true:=by rw[jW]at*;omega
def nH(n:eS m N=true):eS N m=false:=by rw[jW]at n;rw[vh];omega
def cN(P:ah):∀n,(dN P n).Perm (P::n)
 |[]=>List.Perm.refl _
 |x::n=>by
  unfold dN;split
  ·exact List.Perm.refl _
  ·exact(List.Perm.cons x (cN P n)).trans (List.Perm.swap P x n)
def xl{c:ah}:∀{P},Wd P->(∀x∈P,bd x≠bd c)->Wd (dN c P)
 |[],_,_=>by unfold dN;exact List.pairwise_singleton ..
 |x::P,d,e=>by
  obtain⟨f,g⟩:=List.pairwise_cons.1 d;unfold dN;split
  ·rename_i b
   exact List.pairwise_cons.2 ⟨λa n=>by
    rcases Q2.1 n with rfl|n
    ·exact b
    ·exact tY b (f a n),d⟩
  ·rename_i b
   refine List.pairwise_cons.2 ⟨λa n=>?_,xl g λa n=>e a (QJ _ n)⟩;rcases Q2.1 ((cN c P).mem_iff.1 n)with rfl|n
   ·exact(Gw (e x (QV ..))).resolve_right (by simpa using b)
   ·exact f a n
def Nh(f:Dh H)(g:Wd g2)(b:H.Perm g2)(i:(H.map bd).Nodup):H=g2:=by
 refine b.eq_of_pairwise (le:=λP n=>eS n P=false) (λP n j k c d=>?_) f (g.imp λh=>nH h)
 by_cases e:bd P=bd n
 ·have a:n∈H:=b.mem_iff.2 k
  obtain⟨o,l,rfl⟩:=List.getElem_of_mem j;obtain⟨p,m,rfl⟩:=List.getElem_of_mem a;have:=(List.getElem_inj (xs:=H.map bd) (h₀:=by simpa using l) (h₁:=by simpa using m) i).1 (by simpa using e);subst this;rfl
 ·rcases Gw e with h|h
  ·rw[h]at d;cases d
  ·rw[h]at c;cases c
def Vr(P:(H.map bd).Nodup)(n:m∈H):H.find? (λa=>bd a==bd m)=some m:=by
 induction H with
 |nil=>cases n
 |cons a H b=>
  simp only[QY,List.nodup_cons]at P;rcases Q2.1 n with rfl|n
  ·simp
  ·have c:bd a≠bd m:=λd=>P.1 (d▸Xk.2 ⟨m,n,rfl⟩)
   rw[List.find?_cons_of_neg (by simpa using c)];exact b P.2 n
def aw.get_some(n:I.get d8=some m):m∈I.l/\bd m=d8:=
 ⟨List.mem_of_find?_eq_some n,by simpa using List.find?_some n⟩
def aw.get_none(P:I.get d8=none):∀n∈I.l,bd n≠d8:=λn a=>by
 have:=List.find?_eq_none.1 P n a;simpa using this
def aw.OK.get(n:I.OK)(P:m∈I.l):I.get (bd m)=some m:=Vr n.ids P
def KA(g:I.OK)(c:∀n∈h5,n.1=bd n.2)(d:(h5.map (·.2)).Perm I.l)(k:Tidy h5)(P:Int×Int):an h5 P=I.get P:=by
 cases a:an h5 P with
 |none=>
  rw[jG]at a
  symm
  refine List.find?_eq_none.2 λb h=>?_;obtain⟨n,e,rfl⟩:=Xk.1 (d.mem_iff.2 h);intro i;exact a (Xk.2 ⟨n,e,by rw[c n e];simpa using i⟩)
 |some b=>
  have f:=cx a;have j:P=bd b:=c _ f;have:b∈I.l:=d.mem_iff.1 (Xk.2 ⟨_,f,rfl⟩);rw[j,g.get this]
def yx(P:List ah)(n:Int):P.foldl (λn a=>max n a.aB) n=max n (P.foldl (λn a=>max n a.aB) 0)\/n<0:=by
 induction P generalizing n with
 |nil=>simp;omega
 |cons b P c=>
  rw[List.foldl_cons,List.foldl_cons]
  by_cases e:n<0
  ·exact .inr e
  ·rcases c (max n b.aB)with h|h
   ·rcases c (max 0 b.aB)with d|d
    ·left;rw[h,d];omega
    ·omega
   ·omega
def aw.Vo(n:aw)(P:ah):aw.top ⟨n.n,dN P n.l⟩=max n.top P.aB:=by
 show(dN P n.l).foldl _ _=_;rw[(cN P n.l).foldl_eq' (λa _ b _ c=>oM),List.foldl_cons];rcases yx n.l (max 0 P.aB)with h|h
 ·rw[h]
  show max (max 0 P.aB) n.top=_;have:0<=n.top:=by
   rcases yx n.l 0 with h|h
   ·unfold aw.top;omega
   ·omega
  omega
 ·omega
def aw.MW(n:aw):0<=n.top:=by
 rcases yx n.l 0 with h|h
 ·unfold aw.top;omega
 ·omega
def nK(n:cQ m a=0):0<=m.origin/\m.origin<a/\1<=m.seq/\1<=m.aB/\0<=m.agg/\0<=m.key/\m.aN.length=a/\(∀P∈m.aN,0<=P)/\m.aN.getD m.origin.toNat 0=pU (m.seq-1)/\1<=m.op/\m.op<=5/\0<=m.aZ/\m.aZ<8/\0<=m.field/\m.field<8:=by
 unfold cQ at n;split at n
 ·simp at n
 ·rename_i b
  split at n
  ·simp at n
  ·rename_i c
   split at n
   ·simp at n
   ·rename_i g
    split at n
    ·simp at n
    ·rename_i h
     simp only[not_or,List.any_eq_true,Zk,not_exists,not_and]at b;obtain⟨i,j,k,P,l,d⟩:=b;refine⟨oM,oM,oM,oM,oM,oM,oM,λe f=>by have:=d e f;omega,by simpa using c,oM,oM,oM,oM,oM,oM⟩
def aw.GC(n:aw)(P:ah)(a:Nat):aw.GB ⟨n.n,dN P n.l⟩ a=n.GB a+if P.origin=(a:Int)then 1 else 0:=by
 unfold aw.GB;show(dN P n.l).countP _=_;rw[(cN P n.l).countP_eq,List.countP_cons]
 congr 1
 simp
def aw.Te(n:aw)(P:Nat):n.GB P<=n.l.length:=List.countP_le_length
def aw.bU(n:aw):n.vec.length=n.n:=by simp[aw.vec]
def aw.pD(n:aw)(P:a<n.n):n.vec[a]? =some (n.GB a:Int):=by simp[aw.vec,P]
def aw.vu(S:aw)(n:a<S.n):S.vec.getD a 0=(S.GB a:Int):=by rw[QQ,S.pD n];rfl
def aw.Vp(n:aw)(b:ah)(e:b.origin=(a:Int)):aw.vec ⟨n.n,dN b n.l⟩=n.vec.set a (n.GB a+1:Int):=by
 apply X3;intro c
 by_cases P:c<n.n
 ·rw[aw.pD ⟨n.n,dN b n.l⟩ P,aw.GC,Xj,n.pD P,n.bU]
  by_cases d:a=c
  ·subst d;simp[e,P]
  ·rw[Zq d,Zq oM];simp
 ·rw[Q7 (by rw[aw.bU];exact Nat.le_of_not_lt P),Q7 (by rw[List.length_set,n.bU];omega)]
def aw.add_def(n:aw)(P:ah):n.add P=if cQ P n.n≠0 then(cQ P n.n,n)else if(n.get (bd P)).isSome then(16,n)else
 if P.seq≠(n.vec.getD P.origin.toNat 0)+1 then(9,n)else if(List.range n.n).any λa=>!n.mR P a then(9,n)else(0,⟨n.n,dN P n.l⟩):=rfl
def aw.AV(n:I.OK)(f:m.Ok):(I.add m).2.OK/\(I.add m).2.n=I.n:=by
 rw[aw.add_def]
 by_cases b:cQ m I.n=0
 rotate_left
 ·rw[Zx b];exact⟨n,rfl⟩
 rw[Zq (by simpa using b)]
 by_cases c:(I.get (bd m)).isSome=true
 ·rw[Zx c];exact⟨n,rfl⟩
 rw[Zq c];split
 ·exact⟨n,rfl⟩
 split
 ·exact⟨n,rfl⟩
 have e:I.get (bd m)=none:=by simpa using c
 have d:=cN m I.l;refine⟨⟨n.n,xl n.Rj (aw.get_none e),?_,?_,?_⟩,rfl⟩
 ·refine(d.map bd).nodup_iff.2 ?_
  rw[QY,List.nodup_cons];exact⟨λg=>by obtain⟨a,P,h⟩:=Xk.1 g;exact aw.get_none e a P h,n.ids⟩
 ·intro a P
  rcases Q2.1 (d.mem_iff.1 P)with rfl|P
  ·exact b
  ·exact n.YH a P
 ·intro a P
  rcases Q2.1 (d.mem_iff.1 P)with rfl|P
  ·exact f
  ·exact n.ok a P
def aw.tU(n:a<=64):aw.OK ⟨a,[]⟩:=⟨n,List.Pairwise.nil,sM,sM,sM⟩
end Go.Proofs.YtjgjkeponbeekaaGreatDoor
namespace Go.ar
open Go
def iu(n:List Int):List UInt8:=bk ((n.length:Int)::n)
def bS(n:List Int):List UInt8:=cG 2 (iu n)
def kM(n:List UInt8):List Int×im:=aW (bE 64 ⟨n,0,0⟩).1.toNat (bE 64 ⟨n,0,0⟩).2
def iU(n:List UInt8):Option (List Int):=
 if(bt n).no≠0\/(bt n).n≠n.length\/(bt n).kind≠2 then none else if iq (kM (bt n).body).2≠0 then none else some (kM (bt n).body).1
def FJ(n:List UInt8):(∀P∈(kM n).1,aM P)/\(kM n).1.length<=64/\(kM n).2.Fit:=by
 obtain⟨a,e,f,g⟩:=im.Fit.count (r:=⟨n,0,0⟩) ⟨Qj _,.inl rfl⟩ (m:=64) oM;obtain⟨b,c,d,h⟩:=a.ints (bE 64 ⟨n,0,0⟩).1.toNat;exact⟨c,by show(aW _ _).1.length<=64;rw[d];omega,b⟩
variable{u:List Int}{w:List UInt8}
def PO(n:iU w=some u):(∀P∈u,aM P)/\u.length<=64:=by
 unfold iU at n;split at n
 ·cases n
 split at n
 ·cases n
 ·cases n
  exact⟨(FJ _).1,(FJ _).2.1⟩
def yq(a:∀n∈u,aM n)(b:u.length<=64):(iu u).length<=585:=by
 have:=fV (l:=(u.length:Int)::u) (by
  intro n P;rcases Q2.1 P with rfl|P
  ·unfold aM;omega
  ·exact a n P)
 unfold iu;rw[Xq]at this;omega
def rY(n:List Int):(bS n).length=(iu n).length+9:=eZ _ _
def oP(n:∀a∈u,aM a)(b:u.length<=64):iU (bS u)=some u:=by
 have j:=yq n b;have c:bt (bS u)=⟨2,iu u,(iu u).length+9,0⟩:=by
  have:=FK (k:=2) (body:=iu u) (r:=[]) dC dC oM
  rwa [List.append_nil]at this
 have d:(im.mk (iu u) 0 0).At (iu u) (eg (u.length:Int)++(bk (u++[])++[])):=⟨rfl,Qj _,rfl,by rw[List.drop_zero];simp[iu,lj]⟩
 obtain⟨e,f⟩:=d.count (m:=64) (by unfold aM;omega) oM oM;obtain⟨g,h⟩:=im.At.ints u f n;have P:kM (iu u)=aW u.length (bE 64 ⟨iu u,0,0⟩).2:=by unfold kM;rw[e,Qx]
 have i:iq (kM (iu u)).2=0:=by rw[P];exact im.At.done (by simpa[bk]using h)
 unfold iU;rw[c,Zq (by simp[rY])];simp only;rw[Zq (by rw[i];simp),P,g]
end Go.ar
namespace Go.Proofs.YtjgjkeponbeekaaGreatDoor
open Go.ar
def tk:gE:=⟨[(2,[])],[],[],[],[(4,⟨[0,0,2,4,8,0,0,64,128,256,512,0,2048,4096,8192,17408,32800,65536,131088,262145],[1048575,1048575,1048573,1048571,1048567,1048575,1048575,1048511,1048447,1048319,1048063,1048575,1046527,1044479,1040383,1031167,1015775,983039,917487,786430],[0,0,0,0,1,0,0,0,0,1,0,0,0,0,1,0,0,0,0,2]⟩)]⟩
variable{y:ByteArray}{t:UV}{B T e l:Int}{g3:List ByteArray}{b3 u:List Int}{a c i:Nat}{a5 f:RK}{Y a1:Operand}{d s:am}{j:Type}{b:World}
def tl(L:(∃k l,d=some ⟨k,l,none⟩/\(∃(m:Option Nat),b.cell? ⟨k,l+1,none⟩=some (.map m)/\PC PP 137 #[.map m,.func (.func 138) #[] #[]] b (λM o=>
   M= .tuple #[]/\(∃p q,d=some ⟨p,q,none⟩/\(∃(r:Option Nat),o.cell? ⟨p,q+1,none⟩=some (.map r)/\aK PP (Instr.range 141 (.map r)) o (λs N=>
   (∃h:Nat->ac,(∃g,h g N)/\∀(g:Nat) (c1:Nat->Value) (u:World),h g u->aK PP (Instr.next s false 0) u (λv w=>
   (v= .tuple #[.bool false]/\(∃x y,d=some ⟨x,y,none⟩/\PS w ⟨x,y+2,none⟩ (.bool false) λO=>(∃z A,d=some ⟨z,A,none⟩/\
   PS O ⟨z,A+4,none⟩ (.bool false) λQ=>t (.returned (.tuple #[])) Q)))\/(∃R S,v= .tuple #[.bool true,R,S]/\aK PP (Instr.entry s) w (λT U=>
   ∃(V:Value),∃(n:am),T= .tuple #[V,.pointer n]/\(∀P,bw U P->(∃B C,n=some ⟨B,C,none⟩/\(∃(E:Int),P.cell? ⟨B,C+1,none⟩=some (WP E)/\
   (∃F H,n=some ⟨F,H,none⟩/\(∃(W:am) (a:Nat) (X:Nat),P.cell? ⟨F,H,none⟩=some (.slice W a X)/\
   (∃I J,n=some ⟨I,J,none⟩/\(∃(c:Int),P.cell? ⟨I,J+1,none⟩=some (WP c)/\PC PP 139 #[.pointer n,WP (GT .i64 (E+(if(if(GT .i64 (((a:Nat):Int)-c))<e then(GT .i64 (((a:Nat):Int)-c))else e)>0 then(if(GT .i64 (((a:Nat):Int)-c))<e then(GT .i64 (((a:Nat):Int)-c))else e)else 0)))] P (λY Z=>
   Y= .tuple #[]/\(∃K,K<g/\h K Z)) (λi j=>∀(_:cm) (_:cW),t (.panicked i) j))))))))) (λf b=>t (.panicked [{v:=f,recovered:=false}]) b))) (λf b=>
   t (.panicked [{v:=f,recovered:=false}]) b))) (λf b=>t (.panicked [{v:=f,recovered:=false}]) b)))) (λi b=>t (.panicked i) b)))):
  ba 83 #[.pointer d,WP e] b t:=
 gj tk mixed Tryz.func83 rfl (Zv kR) kR (Eq.mp kR L)
def Hg(n:Int)(P:bQ):Int:=P.synced+max 0 (min n ((P.bytes.length:Int)-P.synced))
def tm(n:Int)(P:bQ):bQ:=P.cut (Hg n P)
def ak.eu(D:ak)(n:Int):ak:={D with files:=(D.files.filter λP=>P.2.jN).map (λP=>(P.1,tm n P.2)),jz:=false,dead:=false}
def ak.Jt(D:ak)(n:List (ByteArray×bQ)):ak:=⟨D.most,n,D.jz,D.left,D.dead⟩
def ak.iA(D:ak):ak:={D with files:=D.files.filter λn=>n.2.jN}
def Ed(n:List (ByteArray×bQ))(P:ByteArray×bQ->Bool):eX (n.filter P)<=eX n:=by
 unfold eX
 induction n with
 |nil=>simp
 |cons a n b=>
  rw[List.filter_cons];split
  ·simp;omega
  ·simp;omega
def rq{n:List (ByteArray×j)}(P:Tidy n)(a:ByteArray×j->Bool):Tidy (n.filter a):=List.Nodup.sublist (List.Sublist.map _ List.filter_sublist) P
def ak.Ok.iA{D:ak}(n:D.Ok):D.iA.Ok:=by
 have c:=Ed D.files λP=>P.2.jN;have b:=n.fits;have d:=List.length_filter_le (λP:ByteArray×bQ=>P.2.jN) D.files;have e:=n.many;unfold ak.used at b;exact⟨n.most,by show eX (D.files.filter _)<=D.most;omega,by show(D.files.filter _).length<=64;omega,rq n.tidy _,λP a=>n.names P (List.mem_filter.1 a).1,λP a=>n.TM P (List.mem_filter.1 a).1,n.Ca,n.Cb⟩
def Sd{P:List (ByteArray×j)}(b:Tidy P){k e:ByteArray×j->j}{u l:j}(f:(y,u)∈P)(g:∀a∈P,a.1≠y->e a=k a)(p:e (y,u)=l):
  aJ (P.map λn=>(n.1,k n)) y l=P.map λn=>(n.1,e n):=by
 induction P with
 |nil=>cases f
 |cons q P m=>
  obtain⟨n,a⟩:=q;unfold Tidy at b m;simp only[QY,List.nodup_cons]at b;simp only[QY];unfold aJ
  by_cases h:(y==n)=true
  ·have r:y=n:=eq_of_beq h
   subst r;have s:a=u:=by
    rcases Q2.1 f with h|h
    ·cases h;rfl
    ·exact Zz (Xk.2 ⟨_,h,rfl⟩) b.1
   subst s;rw[Zx h,p]
   congr 1
   refine List.map_congr_left λc d=>?_;rw[g c (QJ _ d) λi=>b.1 (Xk.2 ⟨c,d,i⟩)]
  ·have o:n≠y:=λi=>h (by rw[i];simp)
   rw[Zq h,g (n,a) (QV ..) o]
   congr 1
   refine m b.2 ?_ λc d=>g c (QJ _ d);rcases Q2.1 f with H|H
   ·cases H;exact Zz rfl o
   ·exact H
def tq(n:Int)(left:List (ByteArray×om))(P:ByteArray×bQ):bQ:=if left.any (λa=>a.1==P.1)then P.2 else tm n P.2
def Ml{D:ak}(h:aV b a f D)(e5:aM e):
  ba 83 #[LL a,WP e] b (Ok λS t=>∃q,S= .tuple #[]/\aV t a q (D.eu e)/\cy f b q t):=by
 obtain⟨u,x,j⟩:=h.open;have e6:x.filter (λn=>n.2.f.jN)=x.filter (λn=>n.2.f.jN):=rfl;refine tl ⟨a,0,rfl,some u,ae j.head rfl,PC.ok (Ap j.map j.each λn k P i=>(j.Jp n k P i).2.2) ?_⟩;rintro _ v ⟨rfl,c1,B⟩;have c2:∀P,P=u->f P:=λP m=>m▸j.Fr;have r:fA v a f D.iA u (x.filter λn=>n.2.f.jN):=by
  have C:∀n∈x.filter (λn=>n.2.f.jN),n∈x:=λn k=>(List.mem_filter.1 k).1;refine⟨B.get j.head (λm=>j.pr m),c1,?_,⟨λn k=>(j.each.each n (C n k)).keep B λP i=>(j.Jp n (C n k) P i).2.2,λn k c o=>j.each.apart n (C n k) c (C c o),rq j.each.tidy _⟩,λn k=>j.Jp n (C n k),j.Fr,j.pr,j.self,λP i=>Qk (j.aF P i) B.size,j.ok.iA⟩;show D.files.filter _=_;rw[j.files,List.filter_map]
  rfl
 generalize e7:x.filter (λn=>n.2.f.jN)=p at r;have c3:∀n∈p,∀P,n.2.G P->P<v.heap.size:=λn k P i=>(r.each.each n k).aF P i;refine⟨rfl,a,0,rfl,some u,ae r.head rfl,mapRange mF r.map λw2 hR T s2=>?_⟩;have c4:Tidy D.iA.files:=r.ok.tidy;have c5:∀c∈p,vZ c∈D.iA.files:=λc o=>by rw[r.files];exact Xk.2 ⟨c,o,rfl⟩
 have a5:cy f b f w2:=⟨((B.mono λP _ i=>c2 P i)).af T,λ_ h=>.inl h⟩
 refine⟨λU t=>∃(left s:List (ByteArray×om)) (q:RK),cU t v.heap.size u Value.string (p.map eD) (left.map eD)/\U=left.length/\fA t a q (D.iA.Jt (D.iA.files.map λg=>(g.1,tq e left g))) u s/\s.map eD=p.map eD/\
   cy f b q t/\(∀n∈left,n∈p/\an s n.1=some n.2)/\Tidy left/\v.heap.size<t.heap.size/\¬q v.heap.size,
  ⟨_,p,p,f,hR,rfl,?_,rfl,a5,λn k=>⟨k,ru r.each.tidy k⟩,r.each.tidy,oM,λi=>by have:=r.aF _ i;omega⟩,?_⟩
 ·have m:(D.iA.files.map λn=>(n.1,tq e p n))=D.iA.files:=by
   have:∀n∈D.iA.files,(n.1,tq e p n)=n:=λn k=>by
    rw[r.files]at k;obtain⟨c,o,rfl⟩:=Xk.1 k;have:p.any (λg=>g.1==(vZ c).1)=true:=List.any_eq_true.2 ⟨c,o,by simp[vZ]⟩;unfold tq;rw[Zx this]
   have I:=List.map_congr_left (f:=λn=>(n.1,tq e p n)) (g:=id) this;rw[I,List.map_id]
  rw[m];exact r.af T
 ·rintro U a1 w3 ⟨left,s,q,c6,rfl,V,a7,J,W,y,e2,X⟩
  refine oq c6 (λK=>.inl ⟨rfl,?_⟩) λd S l1 l2 Y c7 c8 c9 Z s4=>.inr ⟨_,_,rfl,rz c9 ?_⟩
  ·have d0:left=[]:=by simpa using K
   subst d0;refine⟨a,0,rfl,V.at.Jo λw5 h5 k5 s5=>⟨a,0,rfl,h5.AG λw6 h6 k6 s6=>Ok.mk ⟨q,rfl,?_,J.trans ⟨k5.then k6,λ_ h=>.inl h⟩⟩⟩⟩;have m:(D.iA.files.map λn=>(n.1,tq e [] n))=(D.files.filter λn=>n.2.jN).map (λn=>(n.1,tm e n.2)):=List.map_congr_left λn _=>by simp[tq]
   rw[m]at h6;exact h6
  ·obtain⟨l,n,P,rfl,rfl,rfl,rfl⟩:=ye c7
   obtain⟨a8,E⟩:=W (d,n) sM;have E:an s d=some n:=E;have a9:∀P,P=v.heap.size->¬q P:=λP m=>m▸X;have w:=V.keep Z λP i m=>a9 P m i;have L:=w.get E;have M:=cx E;have d1:eM Y n.q n.G n.f:=w.each.each _ M;have d2:∀P,n.G P->P<v.heap.size:=c3 _ a8;have b0:∀P,n.G P->q P/\P≠a/\P≠u:=w.Jp _ M;have b1:n.f.bytes.length<=262144:=w.ok.len (cx L);have e3:n.f.synced<=n.f.bytes.length:=w.ok.TM _ (cx L);have e8:n.f=(vZ (d,n)).2:=rfl;refine⟨_,_,rfl,λw5 z=>?_⟩;have b2:=d1.keep (z.keep (S:=λ_=>False)) λ_ _ h=>h;have b3:=w.af z.keep;obtain⟨fa,A,fc,F0,F,I,h3,h4⟩:=b2.body;have b4:A=n.f.bytes.length:=I.len dC;have H:(if(if(GT .i64 (((A:Nat):Int)-(n.f.synced:Int)))<e then(GT .i64 (((A:Nat):Int)-(n.f.synced:Int)))else e)>0 then(if(GT .i64 (((A:Nat):Int)-(n.f.synced:Int)))<e then(GT .i64 (((A:Nat):Int)-(n.f.synced:Int)))else e)else 0)=max 0 (min e ((n.f.bytes.length:Int)-n.f.synced)):=by
    rw[wrap_i64 (by unfold aM;omega),b4];omega
   refine⟨n.q,0,rfl,_,ae F rfl,n.q,0,rfl,fa,A,fc,ae F rfl,n.q,0,rfl,_,ae F rfl,?_⟩;rw[H,wrap_i64 (by unfold aM at*;omega)];refine PC.ok (Ce b2 b1) ?_;rintro _ w6 ⟨N,rfl,O,Q⟩
   replace O:eM w6 n.q N (tm e n.f):=O
   have d3:((D.iA.Jt (D.iA.files.map λg=>(g.1,tq e (l++(d,n)::P) g))).fv d (tm e n.f)).Ok:=b3.ok.cut L _;obtain⟨F6,b5,a0⟩:=b3.fg E O Q d3;have d4:=c8.keep (z.keep (S:=λ_=>False)) id id;have d5:=d4.keep Q.keep (λi=>by have:=d2 _ i;omega) (λi=>(b0 _ i).2.2 rfl);have b6:d∉(l++P).map (·.1):=by
    unfold Tidy at y;rw[Q3,QY]at y;rw[Q3];intro b7;have hp:=(List.perm_middle (a:=d) (l₁:=l.map (·.1)) (l₂:=P.map (·.1))).nodup_iff.1 y;exact(List.nodup_cons.1 hp).1 b7
   have b8:Tidy (l++P):=by
    unfold Tidy at y⊢;rw[Q3,QY]at y;rw[Q3];exact(List.nodup_cons.1 ((List.perm_middle (a:=d) (l₁:=l.map (·.1)) (l₂:=P.map (·.1))).nodup_iff.1 y)).2
   have b9:(l++P).any (λc=>c.1==d)=false:=by
    rw[List.any_eq_false];intro c o K;exact b6 (Xk.2 ⟨c,o,eq_of_beq K⟩)
   have fN:aJ (D.iA.files.map λg=>(g.1,tq e (l++(d,n)::P) g)) d (tm e n.f)=D.iA.files.map λg=>(g.1,tq e (l++P) g):=by
    refine Sd (u:=n.f) c4 (c5 _ a8) (λc o R=>?_) ?_
    ·have d6:(d==c.1)=false:=beq_false_of_ne (Ne.symm R)
     have m:(l++(d,n)::P).any (λg=>g.1==c.1)=(l++P).any (λg=>g.1==c.1):=by
      rw[List.any_append,List.any_cons,List.any_append,d6,Bool.false_or]
     show tq e (l++P) c=tq e (l++(d,n)::P) c;unfold tq;rw[m]
    ·unfold tq
     rw[Zq (by show¬((l++P).any (λc=>c.1==d)=true);rw[b9];simp)]
   have d7:(D.iA.Jt (D.iA.files.map λg=>(g.1,tq e (l++(d,n)::P) g))).fv d (tm e n.f)=D.iA.Jt (D.iA.files.map λg=>(g.1,tq e (l++P) g)):=by
    unfold ak.fv ak.Jt;simp only[fN]
   rw[d7]at b5;have a4:(aJ s d (⟨n.q,N,tm e n.f⟩:om)).map eD=p.map eD:=by
    have F:(aJ s d (⟨n.q,N,tm e n.f⟩:om)).map eD=aJ (s.map eD) d (ptr n.q):=rr (λn:om=>ptr n.q) s d _;rw[F,ry (k:=d) (v:=ptr n.q) (l:=s.map eD) (Xk.2 ⟨(d,n),M,rfl⟩) w.map.tidy,a7]
   refine⟨rfl,_,?_,l++P,_,F6,by rw[Q3];exact d5,rfl,b5,a4,?_,λc o=>?_,b8,?_,?_⟩
   ·simp
   ·have e4:=B.size
    have d8:cy f b q Y:=⟨J.keep.new Z λP i=>.inr oM,J.new⟩
    exact(d8.trans ⟨z.keep,λ_ h=>.inl h⟩).trans a0
   ·have d9:c∈l++(d,n)::P:=by simp only[Q6,Q2]at o⊢;exact o.imp id .inr
    obtain⟨e0,e1⟩:=W c d9;have R:c.1≠d:=λm=>b6 (Xk.2 ⟨c,o,m⟩);refine⟨e0,?_⟩;rw[bl,Zq (by simpa using R)];exact e1
   ·have:=Q.keep.size;have:=(z.keep (S:=λ_=>False)).size;omega
   ·intro i
    rcases a0.new _ i with h|h
    ·exact X h
    ·have:=(z.keep (S:=λ_=>False)).size;omega
def aO:ByteArray:=⟨#[109,97,110,105,102,101,115,116,46,116,109,112]⟩
def b_:ByteArray:=⟨#[109,97,110,105,102,101,115,116]⟩
def dS(D:ak):Int×ak:=if(an D.files aO).isSome then D.delete aO else(0,D)
def gF(n:List Int):Nat->ak->Int×ak
 |0,D=>dS D
 |1,D=>D.create aO
 |2,D=>D.append aO (bS n)
 |3,D=>D.sync aO
 |_,D=>D.rename aO b_
def kJ(n:List Int):Nat->Nat->ak->Int×ak
 |_,0,D=>(0,D)
 |P,a+1,D=>if(gF n P D).1≠0 then((gF n P D).1,(dS (gF n P D).2).2)else kJ n (P+1) a (gF n P D).2
def bz(D:ak)(n:List Int):Int×ak:=if 64<n.length then(3,D)else kJ n 0 5 D
def dF(D:ak):Option (List Int):=if(D.read b_).2≠0 then none else iU (D.read b_).1
def JT(n:List ByteArray):(tC n).Perm n:=List.mergeSort_perm _ _
def FH{D:ak}:y∈D.list↔(an D.files y).isSome=true:=by
 unfold ak.list;rw[(JT _).mem_iff];constructor
 ·intro n
  cases P:an D.files y with
  |none=>exact Zz n (jG.1 P)
  |some a=>rfl
 ·intro n
  obtain⟨a,b⟩:=Option.isSome_iff_exists.1 n;exact Xk.2 ⟨_,cx b,rfl⟩
def oO(D:ak):D.list.length=D.files.length:=by unfold ak.list tC;simp
def PN(n:List Int)(c:a<5)(D:ak):kJ n a (5-a) D=if(gF n a D).1≠0 then((gF n a D).1,(dS (gF n a D).2).2)else kJ n (a+1) (5-(a+1)) (gF n a D).2:=by
 obtain⟨P,b⟩:∃P,5-a=P+1:=⟨4-a,oM⟩
 rw[b,show 5-(a+1)=P by omega]
 rfl
def HE{D:RK}(P:Row Pk 16 b D d a g3):
  ba 292 #[.slice d a c,.string y] b (Ok λo e=>(∃k:Int,o= WP k/\(0<=k↔y∈g3))/\b=e):=by
 have u:=P.len;have p:=P.fe;unfold aR at p;refine kC ⟨λl i e=>∃n:Nat,i=n/\n<=a/\l=a-n/\y∉g3.take n/\b=e,⟨_,0,rfl,Qj _,rfl,sM,rfl⟩,?_⟩;rintro l i _ _ ⟨n,rfl,v,rfl,f,rfl⟩;refine al.dec (λq=>?_) (λq=>?_)
 ·obtain⟨r,g,w,rfl,m,_,s⟩:=P.ns (i:=n) oM
  refine⟨r,g,rfl,oM,oM,_,s,al.ZG (λj=>?_) (λj=>?_)⟩
  ·exact Ok.mk ⟨⟨_,rfl,λ_=>j▸QZ m,λ_=>oM⟩,rfl⟩
  ·refine⟨_,oM,n+1,aq oM,oM,rfl,?_,rfl⟩
   rw[Qw,m];intro t;rcases Q6.1 t with h|h
   ·exact f h
   ·simp at h;exact j h
 ·rw[Qz oM]at f
  exact Ok.mk ⟨⟨_,rfl,λh=>oM,λh=>Zz h f⟩,rfl⟩
def As{D:RK}(n:Row Pk 16 b D d a g3):
  ba 237 #[.slice d a c,.string y] b (Ok λP e=>P= .bool (decide (y∈g3))/\b=e):=by
 refine js (PC.ok (HE n) ?_);rintro _ _ ⟨⟨g,rfl,f⟩,rfl⟩;exact⟨_,rfl,Ok.mk ⟨by rw[decide_eq_decide.2 f],rfl⟩⟩
def rX{D:ak}(n:aV b a f D):ba 174 #[LL a] b (Ok (v_ b a f (dS D))):=by
 refine xJ (PC.ok (yi n) ?_);rintro _ l ⟨m,o,p,G,rfl,g,P,q⟩;have r:D.list.length<=64:=by rw[oO];exact n.ok.many
 refine⟨_,_,_,rfl,PC.ok (As (g.row dC (by unfold aR;omega))) ?_⟩;rintro _ _ ⟨rfl,rfl⟩;have e:(aO∈D.list)↔(an D.files aO).isSome=true:=FH;refine⟨_,rfl,al.dec (λc=>PC.ok (yN (n.af P)) λh i j=>mE h i P ?_) (λc=>?_)⟩
 ·have d:dS D=D.delete aO:=by unfold dS;rw[Zx (e.1 c)]
  rw[d];exact j
 ·have d:dS D=(0,D):=by unfold dS;rw[Zq λk=>c (e.2 k)]
  rw[d];exact Ok.mk (v_.same (n.af P) P.keep)
def CI(C:qU b)(t:Row aP 8 b f d a u)(v:∀h∈u,aM h)(hD:∀P,f P->P<b.heap.size)(E:u.length<=64):
  ba 179 #[.agg #[.slice d a c]] b (Ok (qI gl 5 b (bS u))):=by
 have F:=t.len;refine xK (PA.mk λH I s1 w=>⟨_,_,_,ae w rfl,PC.ok (Cf (m:=(a:Int)) (by unfold aM;omega) (Row.nil H λ_=>False) (by unfold aR;omega) λ_ J=>J.elim) ?_⟩);rintro _ L ⟨a2,n2,c2,M,rfl,x,y,N⟩;have O:ai b L:=I.then y;have Q:eg (a:Int)=bk ((a:Int)::u.take 0):=by simp[bk]
 rw[List.nil_append,Q]at x;refine⟨_,_,_,rfl,_,_,_,ae (y.get w id) rfl,λz l m o i A=>∃n:Nat,i=n/\n<=a/\z=a-n/\∃B,aU gl 5 B A l m o (bk ((a:Int)::u.take n))/\ai b A/\∀P,B P->b.heap.size<=P,
  ⟨_,0,rfl,Qj _,rfl,M,x,O,λP j=>by have:=N P j;omega⟩,?_⟩
 rintro z l m o i _ R ⟨n,rfl,hj,rfl,S,e,g,a0⟩;have a1:(bk ((a:Int)::u.take n)).length<=9*(n+1):=by
  have h1:=fV (l:=(a:Int)::u.take n) (by
   intro h K;rcases Q2.1 K with rfl|K
   ·unfold aM;omega
   ·exact v h (List.mem_of_mem_take K))
  have h2:((a:Int)::u.take n).length=n+1:=by simp;omega
  omega
 have a3:=e.len dC;refine al.dec (λa5=>?_) (λa6=>?_)
 ·obtain⟨P,p,h,rfl,K,T,U⟩:=(t.af g).ns (i:=n) oM
  refine⟨P,p,rfl,oM,oM,_,U,PC.ok (Cf T (e.row (bytes:=1) dC (by unfold aR;omega)) (by unfold aR;omega) e.aF) ?_⟩;rintro _ V ⟨W,X,Y,q,rfl,k,r,s⟩;refine⟨_,_,_,rfl,_,?_,n+1,aq oM,oM,rfl,q,?_,g.then r,λP j=>by have:=s P j;have:=g.size;omega⟩
  ·omega
  ·have Z:bk ((a:Int)::u.take (n+1))=bk ((a:Int)::u.take n)++eg h:=by
    rw[Qw,K,<-List.cons_append,iY]
    congr 1
    simp[bk]
   rw[Z];exact k
 ·obtain rfl:n=a:=oM
  rw[Qz oM,F]at e
  change aU gl 5 S R l m o (iu u)at e
  have a7:=yq v E;refine PC.ok (Fc (C.af g) (e.row (bytes:=1) dC (by unfold aR;omega)) e.aF) ?_;rintro _ V ⟨_,rfl,W,X,Y,q,rfl,k,r,s⟩;rw[show kW 2 (iu u)=(bS u,0) by unfold kW bS;rw[Zq dC,Zq oM]]at k⊢;exact⟨_,_,_,_,rfl,Ok.mk ⟨_,_,_,q,rfl,k,g.then r,λP j=>by have:=s P j;have:=g.size;omega⟩⟩
def CK{D:ak}(ht:qU b)(hD:aV b a f D)(hl:Row aP 8 b a5 d c u)(a8:∀b8∈u,aM b8)(a3:∀n,a5 n->n<b.heap.size/\¬f n)(a9:∀n,f n->n≠2/\n≠3):
  ba 112 #[LL a,.agg #[.slice d c i]] b (Ok (v_ b a f (bz D u))):=by
 have hn:=hl.len;refine xx (PA.mk λw1 k1 s1 g1=>PA.mk λj U s2 g2=>PA.mk λw3 H s3 g3=>⟨_,_,_,ae (H.get g2 id) rfl,al.dec (λh=>?_) (λh=>?_)⟩)
 ·refine PS.mk g3 sM λp B s4 g4=>⟨_,ae g4 rfl,?_⟩
  have k:bz D u=(3,D):=by unfold bz;rw[Zx oM]
  rw[k];have y:ai b p:=((k1.then U).then H).new B λn P=>.inr oM;exact Ok.mk (v_.same (hD.af y) y.keep)
 refine PA.mk λp B s4 g4=>?_;have y:ai b p:=((k1.then U).then H).then B;have k:bz D u=kJ u 0 5 D:=by unfold bz;rw[Zq oM]
 rw[k];have I:=hD.aF;refine⟨λa2 M l=>∃(t:Nat) (J:ak) (v:RK),M=t/\t<=5/\a2=5-t/\kJ u 0 5 D=kJ u t (5-t) J/\aV l a v J/\aj (λn=>f n\/n=j.heap.size) p l/\(∀n,v n->f n\/p.heap.size<=n)/\l.heap[j.heap.size]? =some (.cells #[WP 0] 34 (0,0)),
  ⟨_,0,D,f,rfl,oM,rfl,rfl,hD.af y,aj.refl _,λn P=>.inl P,B.get g3 id⟩,?_⟩
 rintro a2 M _ x ⟨t,J,v,rfl,hi,rfl,N,C,E,V,ge⟩;have W:∀n,b.heap.size<=n->n<p.heap.size->¬v n:=λn h1 h2 hf=>by
  rcases V n hf with h|h
  ·have:=I n h;omega
  ·omega
 have O:x.heap[b.heap.size]? =some (.cells #[LL a] 93 (0,0)):=E.get (B.get (H.get (U.get g1 id) id) id) (λq=>q.elim (λh=>by have:=I _ h;omega) (λh=>oM));have gm:x.heap[w1.heap.size]? =some (.cells #[.slice d c i] 211 (0,0)):=E.get (B.get (H.get g2 id) id) (λq=>q.elim (λh=>by have:=I _ h;omega) (λh=>oM));have Q:=E.get g4 (λq=>q.elim (λh=>by have:=I _ h;omega) (λh=>oM));have c6:=E.size;have w:∀(k:Int) (R:ak) (G:RK) (g:World),aV g a G R->aj (λn=>f n\/n=j.heap.size) p g->(∀n,G n->f n\/p.heap.size<=n)->g.heap[j.heap.size]? =some (.cells #[WP k] 34 (0,0))->
   kJ u 0 5 D=(k,if k≠0 then(dS R).2 else R)->
   Lv PP (λb0=>∃A:Int,b0.cell? ⟨j.heap.size,0,none⟩=some (WP A)/\Ok (v_ b a f (kJ u 0 5 D)) (.returned (WP A)) b0) (λch l=>Ok (v_ b a f (kJ u 0 5 D)) (.panicked ch) l)
    ([{target:=.fn (.func 173) #[LL j.heap.size,LL b.heap.size],args:= #[]}]:List Deferred) .returning g:=by
  intro k R G g hE r hG X hr;have b9:g.heap[b.heap.size]? =some (.cells #[LL a] 93 (0,0)):=r.get (B.get (H.get (U.get g1 id) id) id) (λq=>q.elim (λh=>by have:=I _ h;omega) (λh=>oM));have m:∀o (K:RK) (E':ak),aV o a K E'->cy G g K o->kJ u 0 5 D=(k,E')->∃A:Int,o.cell? ⟨j.heap.size,0,none⟩=some (WP A)/\Ok (v_ b a f (kJ u 0 5 D)) (.returned (WP A)) o:=by
   intro o K E' a4 s a0;have c0:¬G j.heap.size:=λh=>(hG _ h).elim (λh=>by have:=I _ h;omega) (λh=>oM);have c7:=r.size;refine⟨k,ae (s.keep.get X c0) rfl,Ok.mk ?_⟩;rw[a0];refine⟨K,rfl,a4,?_,λn P=>?_⟩
   ·have c1:aj f b g:=y.keep.new r λn P=>P.imp id λh=>by omega
    exact c1.new s.keep λn P=>(hG n P).imp id λh=>by omega
   ·rcases s.new n P with h|h
    ·exact(hG n h).imp id λh=>by omega
    ·exact .inr oM
  refine Lv.one sM kR (CallsD.mono (sN (R:=λe' o=>e'= .returned (.tuple #[])/\∃A:Int,o.cell? ⟨j.heap.size,0,none⟩=some (WP A)/\Ok (v_ b a f (kJ u 0 5 D)) (.returned (WP A)) o) ⟨_,ae X rfl,al.eK (λY=>?_) (λZ=>?_)⟩) ?_)
  ·refine⟨_,ae b9 rfl,PC.ok (rX hE) ?_⟩
   rintro _ o ⟨K,rfl,a4,s⟩;exact⟨_,rfl,rfl,m o K _ a4 s (by rw[hr,Zx Y])⟩
  ·exact⟨rfl,m g G R hE (cy.refl _ _) (by rw[hr,Zq (by simpa using Z)])⟩
  ·rintro e' u' o ⟨rfl,rfl,hX⟩
   exact Lv.ret rfl hX
 refine al.dec (λc8=>?_) (λc9=>?_)
 ·have b1:t<5:=oM
  have step:∀κ ε,(∀z l,v_ x a v (gF u t J) z l->κ z l)->∃b2:Value,x.cell? ⟨w3.heap.size,0+Int.toNat (t:Int),none⟩=some b2/\∃a1 a7 b3,b2= .func (.func a1) a7 b3/\enters PP a1=true/\PC PP a1 (a7++ #[]++b3) x κ ε:=by
   intro κ ε e;rw[Qx,Xz];have m:∀{b4:Int×ak} {z l},v_ x a v b4 z l->∃M:Int,z= WP M/\Ok (v_ x a v b4) (.returned (WP M)) l:=λh=>mE _ _ (aj.refl _) h
   match t,b1,e with
   |0,_,e=>exact⟨_,ae Q rfl,_,_,_,rfl,kR,PC.ok (uw ⟨_,ae O rfl,PC.ok (rX C) λz l h=>m h⟩) e⟩
   |1,_,e=>exact⟨_,ae Q rfl,_,_,_,rfl,kR,PC.ok (ux ⟨_,ae O rfl,PC.ok (yO C) λz l h=>m h⟩) e⟩
   |2,_,e=>
    refine⟨_,ae Q rfl,_,_,_,rfl,kR,PC.ok (φ:=v_ x a v (gF u 2 J)) (uy λg d6=>?_) e⟩;have r:ai x g:=d6.keep;have F:aj (λn=>f n\/n=j.heap.size) p g:=E.then r.keep;have c2:Row aP 8 g a5 d c u:=(hl.af y).keep F λn P q=>q.elim (a3 n P).2 λh=>by have:=(a3 n P).1;omega
    have c3:qU g:=by
     have:=(ht.af y)
     have d0:b.heap.size<=p.heap.size:=y.size;have h1:=ht.lt;have hz:=F.size;refine⟨λS hj=>?_,λS hj=>?_,oM⟩
     ·exact(this.lower S hj)▸F.cell (a:=⟨2,S,none⟩) (by show 2<_;omega) (λq=>q.elim (λh=>(a9 _ h).1 rfl) (λh=>by have h:2=j.heap.size:=h;omega))
     ·exact(this.upper S hj)▸F.cell (a:=⟨3,S,none⟩) (by show 3<_;omega) (λq=>q.elim (λh=>(a9 _ h).2 rfl) (λh=>by have h:3=j.heap.size:=h;omega))
    refine⟨v,W _ (Q4 _) oM,_,ae (r.get O id) rfl,_,_,_,ae (r.get gm id) rfl,PC.ok (CI c3 c2 a8 (λn P=>by have:=(a3 n P).1;have:=y.size;have:=F.size;omega) oM) ?_⟩;rintro _ o ⟨d1,n7,d2,F7,rfl,a6,L,c4⟩;have d3:=rY u;have d4:=yq a8 oM;refine⟨_,_,_,rfl,L.keep,PC.ok (yP ((C.af r).af L) (a6.row dC (by unfold aR;omega)) (λk=>a6.Pd k) λn P=>⟨a6.aF n P,λhf=>by have:=C.aF n hf;have:=c4 n P;have:=r.size;omega⟩) ?_⟩;rintro _ w8 ⟨F8,rfl,c5,s⟩;exact⟨_,rfl,s.keep,Ok.mk ⟨F8,rfl,c5,(cy.mk (ai.keep (r.then L)) λ_ h=>.inl h:cy v x v o).trans s⟩⟩
   |3,_,e=>exact⟨_,ae Q rfl,_,_,_,rfl,kR,PC.ok (uz ⟨_,ae O rfl,PC.ok (EV C) λz l h=>m h⟩) e⟩
   |4,_,e=>exact⟨_,ae Q rfl,_,_,_,rfl,kR,PC.ok (uA ⟨_,ae O rfl,PC.ok (Jr C) λz l h=>m h⟩) e⟩
  refine⟨_,_,rfl,oM,oM,step _ _ ?_⟩;rintro _ g ⟨F6,rfl,h6,s⟩;have b5:∀n,F6 n->n≠j.heap.size:=λn P k=>by
   subst k;rcases s.new _ P with h|h
   ·exact W _ oM oM h
   ·omega
  have b6:∀n,F6 n->f n\/p.heap.size<=n:=λn P=>by
   rcases s.new n P with h|h
   ·exact V n h
   ·exact .inr oM
  have F:aj (λn=>f n\/n=j.heap.size) p g:=E.new s.keep λn P=>(V n P).imp .inl id;refine⟨_,rfl,PS.mk (s.keep.get ge (W _ oM oM)) sM λo L s7 T=>?_⟩;have h7:=h6.keep L λn P=>b5 n P;have b7:aj (λn=>f n\/n=j.heap.size) p o:=F.then (L.mono λn _ P=>.inr P);rw[PN u b1]at N;refine⟨_,ae T rfl,al.eK (λY=>?_) (λZ=>?_)⟩
  ·refine⟨_,ae T rfl,PS.mk T sM λw8 k8 s8 g8=>?_⟩
   exact w _ _ F6 w8 (h7.keep k8 λn P=>b5 n P) (b7.then (k8.mono λn _ P=>.inr P)) b6 g8 (by rw[N,Zx Y,Zx Y])
  ·rw[Zq (by simpa using Z)]at N
   rw[Z]at T;exact⟨rfl,_,oM,t+1,_,F6,aq oM,oM,rfl,N,h7,b7,b6,T⟩
 ·obtain rfl:t=5:=oM
  refine⟨_,ae ge rfl,PS.mk ge sM λg r s6 X=>?_⟩;refine w 0 J v g (C.keep r λn P k=>W n oM oM P) (E.then (r.mono λn _ P=>.inr P)) V X ?_;rw[N];rfl
def El{D:ak}(ht:qU b)(hD:aV b a f D):
  ba 109 #[LL a] b (Ok λQ g=>∃l o p G,Q= .tuple #[.agg #[.slice l o p],.bool (dF D).isSome]/\aU aP 3 G g l o p ((dF D).getD [])/\ai b g/\∀n,G n->b.heap.size<=n):=by
 refine zW (PA.mk λA C s1 g1=>PC.ok (yh (hD.af C)) ?_);rintro _ w2 ⟨_,rfl,a7,n2,c2,F2,rfl,u,R,e8⟩
 change aU gl 5 F2 w2 a7 n2 c2 (D.read b_).1 at u
 have b3:(D.read b_).1.length<=262144:=by
  unfold ak.read;split
  ·simp
  ·split
   ·simp
   ·rename_i e7 hf;exact hD.ok.len (cx hf)
 have a3:∀{g},ai A g->g.heap[b.heap.size]? =some (.cells #[.slice none 0 0] 211 (0,0)):=λhk=>hk.get g1 id;have d:dF D=none->∀v,ai A v->PS v ⟨b.heap.size,0,none⟩ (.slice none 0 0) λw=>∃(b4:am) (b5:Nat) (b6:Nat),w.cell? ⟨b.heap.size,0,none⟩=some (.slice b4 b5 b6)/\
   Ok (λQ g=>∃l o p G,Q= .tuple #[.agg #[.slice l o p],.bool (dF D).isSome]/\aU aP 3 G g l o p ((dF D).getD [])/\ai b g/\∀n,G n->b.heap.size<=n) (.returned (.tuple #[.agg #[.slice b4 b5 b6],.bool false])) w:=by
  intro S v E;refine PS.mk (a3 E) sM λw4 T s4 U=>⟨_,_,_,ae U rfl,?_⟩
  rw[S];exact Ok.mk ⟨none,0,0,λ_=>False,rfl,aU.nil w4,(C.then E).new T λn P=>.inr oM,λ_ h=>h.elim⟩
 refine⟨_,_,_,_,rfl,al.eK (λk=>d (by unfold dF;exact Zx k) w2 R) (λS=>?_)⟩;have B:dF D=iU (D.read b_).1:=by unfold dF;exact Zq λh=>h S
 generalize(D.read b_).1=F at u b3 B;have d6:=u.len dC;refine PC.ok (Fe (ht.af (C.then R)) (u.row (bytes:=1) dC (by unfold aR;omega)) u.lz u.aF) ?_;rintro _ v ⟨c0,n3,c3,F3,rfl,b7,E,e9⟩;refine⟨_,_,_,_,_,_,rfl,PA.mk λw4 T s4 U=>PS.mk U sM λw5 k5 s5 g5=>PS.mk g5 sM λx k6 s6 g6=>?_⟩;have V:x.heap[v.heap.size]? =some (.cells #[WP (bt F).kind,.slice c0 n3 c3] 277 (0,0)):=g6;have W:ai v x:=(T.new k5 λn P=>.inr oM).new k6 λn P=>.inr oM;have s:ai A x:=(R.then E).then W;have f8:=W.size;refine al.eK (λk=>d (by rw[B];unfold iU;exact Zx (.inl k)) x s) (λb8=>?_);refine al.eK (λk=>d (by rw[B];unfold iU;exact Zx (.inr (.inl λe=>k (by rw[e,d6])))) x s) (λg0=>?_);refine⟨_,ae V rfl,al.eK (λk=>d (by rw[B];unfold iU;exact Zx (.inr (.inr k))) x s) (λd7=>?_)⟩;have X:dF D=if iq (kM (bt F).body).2≠0 then none else some (kM (bt F).body).1:=by
  rw[B];unfold iU;refine Zq ?_;rintro(h|h|h)
  ·exact h b8
  ·exact h oM
  ·exact h d7
 have Y:=b7.af W;obtain⟨g2,h9,d8⟩:=wq b8;generalize(bt F).body=c at Y X d8 V b7;refine⟨_,_,_,ae V rfl,PC.ok (EX (Y.row (bytes:=1) dC (by unfold aR;omega)) Y.aF) ?_⟩;rintro _ w ⟨H,a4,rfl,I,k7,hP⟩;refine⟨_,rfl,PA.mk λw8 k8 s8 g8=>PC.ok (Ju (m:=64) (I.af k8)) ?_⟩;rintro _ t ⟨rfl,Z,k9⟩;have b9:=I.aF;have hq:=I.self;have g3:=b9 H hq;have g7:=hP H hq;obtain⟨c1,a8,c5,c4⟩:=im.Fit.count (r:=⟨c,0,0⟩) ⟨Qj _,.inl rfl⟩ (m:=64) oM;have g9:t.heap[w.heap.size]? =some (.cells #[.slice none 0 0] 211 (0,0)):=k9.get g8 (λe=>oM);have J:kM c=aW (bE 64 ⟨c,0,0⟩).1.toNat (bE 64 ⟨c,0,0⟩).2:=rfl;have K:ai A t:=((s.then k7).then k8).new k9 λn P=>.inr (by have:=s.size;omega);generalize h2:bE 64 ⟨c,0,0⟩=ct at Z c1 a8 c5 c4 J;obtain⟨cn,L⟩:=ct;simp only at Z c1 a8 c5 c4 J;refine⟨_,rfl,λm a5 g=>∃i:Nat,a5=i/\(i:Int)<=cn/\m=cn.toNat-i/\fB g H a4 (aW i L).2/\ai A g/\∃l o p G,g.heap[w.heap.size]? =some (.cells #[.slice l o p] 211 (0,0))/\aU aP 3 G g l o p (aW i L).1/\(∀n,G n->t.heap.size<=n)/\t.heap.size<=g.heap.size,
  ⟨_,0,rfl,a8,rfl,Z,K,none,0,0,λ_=>False,g9,aU.nil t,λ_ h=>h.elim,Q4 _⟩,?_⟩
 have h3:=k9.size;rintro m a5 _ c6 ⟨i,rfl,hj,rfl,a0,M,c7,c8,c9,d0,a9,y,q,f0⟩;have d9:∀n,a4 n->n<t.heap.size:=λn P=>by have:=b9 n P;omega
 refine al.dec (λh4=>?_) (λh5=>?_)
 ·intro N b0
  have j:ai c6 N:=b0.keep;refine⟨(λn=>n=H\/d0 n),λhs=>hs.elim (λe=>oM) (λe=>by have:=q _ e;omega),_,_,_,ae (j.get a9 id) rfl,PC.ok (Hj (a0.af j)) ?_⟩;rintro _ d1 ⟨rfl,d2,r⟩;obtain⟨f1,f2,f3,f4⟩:=c1.ints i;obtain⟨f5,f6,f7⟩:=f1.int;refine⟨_,rfl,r.mono λn _ P=>.inl P,?_⟩;have a1:=(y.af j).keep r λn P e=>by have:=q n P;omega
  refine PA.mk λh6 z h7 e0=>⟨z.keep,?_⟩
  have d3:=a1.af z;have d4:(aW i L).1.length=i:=f3;refine lM d3 vr (D:=(·=d1.heap.size)) (Row.lit e0 [(fl (aW i L).2).1] rfl (λf9 hx=>by simp at hx;subst hx;exact f6) (by unfold aR;simp)) (λn e=>⟨oM,λe2=>by have:=a1.aF n (a1.self n e2);omega⟩) (by rw[d4];unfold aR;simp;omega) (by rw[d4];unfold maxLen;simp;omega) λb1 e1 e3 h8 a2 O _ d5=>?_
  replace a2:=a2.alone
  have e4:e3.heap[w.heap.size]? =some (.cells #[.slice c7 c8 c9] 211 (0,0)):=O.get (z.get (r.get (j.get a9 id) (λe=>oM)) id) (λe=>by have:=q _ (y.self _ e);omega);have z1:=j.size;have z2:=r.size;have z3:=z.size;have z4:=O.size;have a6:∀n,aG b1=some n->t.heap.size<=n:=λn P=>by
   rcases d5 n P with h|h
   ·exact q n h
   ·omega
  refine⟨_,_,_,rfl,PS.mk e4 sM λi0 b2 i1 e5=>⟨_,oM,i+1,aq oM,oM,rfl,?_,?_,b1,_,e1,(λn=>aG b1=some n),e5,?_,a6,oM⟩⟩
  ·refine(((d2.af z).keep O λn P e=>by have:=d9 n P;have:=q n (y.self n e);omega)).keep b2 λn P e=>by have:=I.aF n P;omega
  ·refine((((M.then j).new r λn P=>.inr (by have:=s.size;omega)).then z).new O λn P=>.inr (by have:=q n (y.self n P);have:=K.size;omega)).new b2 λn P=>.inr (by have:=(s.then k7).size;omega)
  ·exact a2.keep b2 λn P e=>by have:=a6 n P;omega
 ·obtain rfl:cn=(i:Int):=oM
  rw[Qx]at J;rw[<-J]at a0 y;refine PC.ok (NM a0) ?_;rintro _ N ⟨rfl,b0⟩;have j:ai c6 N:=b0.keep;refine⟨_,rfl,al.eK (λk=>d (by rw[X];exact Zx k) N (M.then j)) (λh0=>?_)⟩;have hS:dF D=some (kM c).1:=by rw[X];exact Zq λh=>h h0
  rw[hS];refine⟨_,_,_,ae (j.get a9 id) rfl,PS.mk (a3 (M.then j)) sM λd1 r i2 e6=>⟨_,_,_,ae e6 rfl,Ok.mk ⟨c7,c8,c9,d0,rfl,?_,?_,?_⟩⟩⟩
  ·exact(y.af j).keep r λn P e=>by have:=q n P;have:=K.size;omega
  ·exact(C.then (M.then j)).new r λn P=>.inr oM
  ·intro n P;have:=q n P;have:=K.size;omega
def WD:(do eqGuard .eql 46 Y a1 (.agg #[WP e,WP l]) (.agg #[WP B,WP T]);binOp .eql 46 (.agg #[WP e,WP l]) (.agg #[WP B,WP T]):Sem Value).run PP b= .ok (.bool (e==B&&l==T)) b:=by
 have c:Tryz.prog.underlying 46=some (.struct (Tryz.prog.fieldsOf 46)):=kR
 have a:Tryz.prog.underlying 3=some (.int .i64):=kR
 have n:(Tryz.prog.fieldsOf 46).toList.map (λP=>(P.name,P.type,P.offset))=[("Origin",3,0),("Seq",3,1)]:=kR
 rw[Sem.run_bind,run_eqGuard_agg b .eql _ Y a1 _ _ kR,Result.andThen_ok,run_eql_struct,run_equalIn_struct b 9999 _ _ _ c kR];generalize(Tryz.prog.fieldsOf 46).toList=d at n
 match d,n with
 |[P,s],n=>
  simp only[QY,List.map_nil,List.cons.injEq,Prod.mk.injEq,and_true]at n;obtain⟨⟨f,g,h⟩,i,j,k⟩:=n;have m:(isAgg 3).run PP b= .ok false b:=dI _ _ _ kR ⟨_,a⟩ b;have o:=run_equalIn_int (P:=PP) b 9998 3 .i64 .i64 e B a;have p:=run_equalIn_int (P:=PP) b 9998 3 .i64 .i64 l T a;unfold Op.eqFields Op.eqFields Op.eqFields;rw[f,g,h,i,j,k]
  cases q:e==B<;>simp[part,m,o,p,q]
  by_cases r:l=T<;>simp[r]
 |[],n=>simp at n
 |[_],n=>simp at n
 |_::_::_::_,n=>simp at n
def DI{a j r t:Nat}{D v:RK}(c:Row aP 8 b D d a u)(k:Row aP 8 b v s j b3):
  ba 14 #[.slice d a r,.slice s j t] b (Ok λw e=>w= .bool (decide (u=b3))/\bw b e):=by
 have x:=c.len;have y:=k.len;have z:=c.fe;unfold aR at z;refine BB (al.eK (λl=>?_) (λl=>?_))
 ·have f:u≠b3:=by rintro rfl;simp[x,y]at l
  exact Ok.mk ⟨by simp[f],bw.refl b⟩
 ·refine⟨λm i e=>∃n:Nat,i=n/\n<=a/\m=a-n/\u.take n=b3.take n/\bw b e,⟨_,0,rfl,Qj _,rfl,rfl,bw.refl b⟩,?_⟩
  rintro m i _ L ⟨n,rfl,M,rfl,o,P⟩;refine al.dec (λA=>?_) (λA=>?_)
  ·obtain⟨B,C,N,rfl,p,_,E⟩:=(c.af P.keep).ns (i:=n) oM
   obtain⟨F,H,O,rfl,g,_,I⟩:=(k.af P.keep).ns (i:=n) oM;refine⟨B,C,rfl,oM,oM,_,E,F,H,rfl,oM,oM,_,I,λQ q=>?_⟩;refine al.eK (λh=>?_) (λh=>?_)
   ·have f:u≠b3:=by rintro rfl;rw[p]at g;cases g;exact h rfl
    exact Ok.mk ⟨by simp[f],P.then q⟩
   ·subst h
    exact⟨_,oM,n+1,aq oM,oM,rfl,Pz o p g,P.then q⟩
  ·have:u=b3:=by
    have J:u.take n=u:=Qz oM;have K:b3.take n=b3:=Qz oM;rw[<-J,<-K,o]
   exact Ok.mk ⟨by simp[this],P⟩
end Go.Proofs.YtjgjkeponbeekaaGreatDoor
namespace Go.ar
open Go.ChangeShapes Go.WideShapes Go.ChangeAt Go.RowKit
def mI{n:Type}(P:Program)(a:TypeId)(b:DataW n):Prop:=∀c∈b.weights P a,c<=reachBytes
abbrev In(n:World):RK:=λP=>P<n.heap.size
variable{e:Int}{a c:Nat}{j:Type}{g r:TypeId}{x:Value}
section
variable {H:Type} {enc:TypeId×Value->H} {P:Program} {w:World} {base:Nat} {held:Bool}
def RR{n:List TypeId}{a:List (DataW H)}(c:(DataW.weightsEach P n a).all (·<=reachBytes)=true){j:Nat}{b:DataW H}(d:n[j]? =some g)(e:a[j]? =some b):mI P g b:=
 λf h=>by simpa using ZY.1 c _ (DataW.weights_mem_each d e f h)
def rE{b:TypeId}:∀{n:List (DataW H)} {d:DataW H},d∈n->∀a∈d.weights P b,a∈DataW.weightsAll P b n
 |x::n,d,h,a,c=>by
  simp only[DataW.weightsAll,Q6];rcases Q2.1 h with rfl|h
  ·exact Or.inl c
  ·exact Or.inr (rE h a c)
def Reads{c:Type}(P:Program)(d:ks c)(a:TypeId):Prop:=
 ∀(H:Type) (enc:TypeId×Value->H) (w:World) (held:Bool) (n:Nat) (cs:List Value) (b:DataW H×List MemPlace),DataW.trod enc P w 0 (λ_=>true) held n a cs=some b->mI P a b.1->∃e,d.rep w (In w) e cs
def lN{P:Option _}(n:w.cell? ⟨a,c,P⟩=some x):a<w.heap.size:=by
 unfold World.cell? at n
 by_cases b:a<w.heap.size
 ·exact b
 ·rw[show w.heap[a]? =none by simp;omega]at n;cases n
def open_row{i:ks j}{bytes v:Nat}{cs:List Value}{B:DataW H×List MemPlace}(I:P.underlying g=some (.slice r))(Q:P.cellsOf r=i.k)(J:0<i.k)(R:P.bytesOf r=bytes)(S:Reads P i r)(o:DataW.trod enc P w 0 (λ_=>true) held v g cs=some B)(T:mI P g B.1):
  ∃a p e U,cs=[.slice a p e]/\p<=e/\(a=none->p=0/\e=0)/\Row i bytes w (In w) a p U:=by
 rcases DataW.trod_slice I o with⟨rfl,rfl⟩|⟨a,b,e,n,f,p,_,rfl,rfl,hb,V,hm,a4,W,a5,a6⟩
 ·exact⟨none,0,0,[],rfl,Q4 _,λ_=>⟨rfl,rfl⟩,Row.nil _ _⟩
 ·have x:∀k∈(n.length+f.length)*P.bytesOf r::(DataW.weightsAll P r (n.map (·.1))++DataW.weightsAll P r (f.map (·.1))),k<=reachBytes:=by
   have:=T;simpa only[mI,DataW.weights,I,Q8]using this
  have read:∀d,d<b->∃c k,n[d]? =some k/\c.length=i.k/\(∀h,h<i.k->w.cell? (a.add (d*i.k+h))=c[h]?)/\DataW.trod enc P w 0 (λ_=>true) held p r c=some k:=by
   intro d m;have K:=W d m;rw[Q,Qq (by omega:d<n.length)]at K;obtain⟨c,A,y⟩:=Option.bind_eq_some_iff.1 K;obtain⟨_,C,s⟩:=World.cells?_some A;exact⟨c,_,Qq oM,C,λh E=>by rw[<-Addr.add_add];exact s h E,y⟩
  have X:0<b->a.spot=none:=by
   intro Y;obtain⟨c,k,_,C,s,_⟩:=read 0 Y;have:=s 0 J;rw[Nat.zero_mul,Nat.add_zero,Qq oM]at this;have r:a.add 0=a:=by simp[Addr.add]
   rw[r]at this;unfold World.cell? at this;split at this
   ·cases t:a.spot with
    |none=>rfl
    |some L=>rw[t]at this;simp at this
   ·cases this
  have one:∀d,d<b->∃q,∃u z M,some a=some ⟨u,z,none⟩/\u<w.heap.size/\In w u/\(∀h,h<i.k->w.cell? ⟨u,z+d*i.k+h,none⟩=M[h]?)/\i.rep w (In w) q M:=by
   intro d m;have t:=X oM;have N:∀F,a.add F=⟨a.block,a.off+F,none⟩:=by
    intro F;obtain⟨u,Z,L⟩:=a;simp only at t;subst t;unfold Addr.add;split
    ·next o=>subst o;rfl
    ·rfl
   obtain⟨c,k,y,C,s,h5⟩:=read d m;have a0:mI P r k.1:=λq l=>x q (QJ _ (ZV _ (rE (d:=k.1) (Xk.2 ⟨k,QZ y,rfl⟩) q l)));obtain⟨q,l⟩:=S H enc w held p c k h5 a0;have O:a.block<w.heap.size:=by
    have:=s 0 J;rw[N,Qq oM]at this;exact lN this
   refine⟨q,a.block,a.off,c,?_,O,O,λh E=>?_,l⟩
   ·obtain⟨u,Z,L⟩:=a
    simp only at t;rw[t]
   ·have:=s h E
    rw[N]at this;rw[<-this,Nat.add_assoc]
  have a1:b*bytes<=aR:=by
   have A:=x _ (QV ..);have y:b*P.bytesOf r<=(n.length+f.length)*P.bytesOf r:=Q0 _ oM;rw[R]at A y;unfold reachBytes at A;unfold aR;omega
  by_cases l:b=0
  ·subst l
   exact⟨some a,0,e,[],rfl,Qj _,λo=>(by cases o),rfl,sM,λd B m=>(by simp at m)⟩
  ·have a2:Nonempty j:=⟨(one 0 oM).choose⟩
   haveI:Inhabited j:=⟨Classical.choice a2⟩
   obtain⟨a3,hf⟩:=Go.Deep.choose_lt one;refine⟨some a,b,e,(List.range b).map a3,rfl,V,λo=>(by cases o),sM,a1,λd q l=>?_⟩
   by_cases m:d<b
   ·rw[Q9,List.getElem?_range m]at l
    cases l
    exact hf d m
   ·rw[Q7 (by simp;omega)]at l;cases l
def br(n:(Lit.int .i64 e).wf=true):aM e:=by
 have:IntKind.i64.min<=e/\e<=IntKind.i64.max:=by simpa[Lit.wf]using n
 exact this
end
variable{p:Array Value}{a7:Func}{g4:List MemPlace}{b k:World}
def ai.below(n:ai b k):Below b.heap.size b k:=⟨n.os,n.tape,n.output,n.size,λP a=>n.block P a id⟩
section
variable {H:Type} {enc:TypeId×Value->H} {P:Program}
def wu(i:laidOutB P=true){e j:World}(k:ai e j){l:Nat->Bool}:∀{b:List TypeId} {m:List Value} {o:List (DataW H)} {c:List MemPlace},b.all (λf=>P.readableRec f&&decide (f<P.types.size))=true->(∀n∈c,n.block<e.heap.size)->(∀n∈c,l n.block=true)->
  DataW.TrodAll enc P e 0 (λ_=>true) true b m o c->DataW.TrodAll enc P j 0 l true b m o c
 |[],_,_,_,_,_,_,a=>by
  obtain⟨rfl,rfl,rfl⟩:=trodAll_nil a;exact trodAll_mk0
 |f::b,_,_,_,d,p,q,a=>by
  obtain⟨t,u,v,w,x,y,rfl,rfl,rfl,r,s⟩:=trodAll_cons a;simp only[List.all_cons,QK,Zk]at d;refine trodAll_cons_mk (WideElems.Trod_stays i d.1.1 d.1.2 r (λg h=>k.below.same (p g (ZV _ h))) λg h=>q g (ZV _ h)) (wu i k (by simpa using d.2) (λn a=>p n (ZW _ a)) (λn a=>q n (ZW _ a)) s)
def OU{c:ChangeSpec}{e m:List (DataW H)}{tb:TypeId}{n h E i:Bool}(F:laidOutB P=true)(u:a7.resultTypes= #[tb])(v:P.underlying tb=some .bool)(w:c.vars=[])(I:(c.fn H (e++m)).results=[.lit (.bool true)])(J:(c.fn H (e++m)).args=e)(K:(c.fn H (e++m)).vars=[])(L:a7.params.toList.all (λx=>P.readableRec x&&decide (x<P.types.size))=true)(o:DataW.Whole enc P a7.params.toList c.vars n b p.toList e m g4)(q:ai b k):c.post enc P a7 n h E i b p (.bool true) k:=by
 have M:=o;have r:=λa d=>o.lt a d;obtain⟨a,V,N,y,O,Q,R⟩:=o;rw[w]at y;obtain⟨rfl,rfl⟩:=trodVars_none y;obtain rfl:g4=a:=by simpa using O
 have z:∀f:Nat->Bool,(∀a∈g4,f a.block=true)->DataW.TrodAll enc P k 0 f true a7.params.toList p.toList (c.fn H (e++[])).args g4:=λf S=>by
  rw[J];exact wu F q L (λs t=>by simpa using r s t) (λs t=>S s t) N
 have A:∀(g:Nat) (f:Nat->Bool) (B:Bool),DataW.TrodAll enc P k g f B a7.resultTypes.toList ((Value.bool true).resultList a7.resultTypes.size) (c.fn H (e++[])).results []:=λg f B=>by
  rw[u,I];exact trodAll_cons_mk (shut_bool v _) trodAll_mk0
 have C:∀f:Nat->Bool,DataW.TrodVars enc P k f c.vars (c.fn H (e++[])).vars []:=λf=>by rw[K,w];exact rfl
 have T:∀a∈g4,(λg=>decide (g<b.heap.size)) a.block=true:=λa d=>by simpa using r a d
 refine⟨e,[],g4,[],g4,[],M,A _ _ _,z _ T,C _,World.keptBut_mono (λa d=>⟨d,Or.inr (by simpa using d)⟩) (q.below.frame (·∈g4)),λ_=>?_⟩;refine⟨ok_one u rfl (okWide_bool_mk v _),_,_,([]++g4)++[],⟨[]++g4,[],trodAll_append (z _ (λ_ _=>rfl)) (A _ _ _),C _,rfl,?_,?_⟩,?_⟩
 ·intro g j d
  have l:MemPlace.cell g j∈g4:=by simpa using d
  rw[q.below.frozen (p:=⟨g,j,none⟩) (r _ l)];exact Q g j (by simpa using l)
 ·intro U
  simpa using R U
 ·intro a d _
  simpa using d

import Derived.Test.YtjgjkeponbeekaaGreatDoorKk16
set_option maxHeartbeats 4000000
set_option linter.all false
set_option maxRecDepth 100000
open Go.IntKind renaming wrap→ZG
namespace Go.Proofs.YtjgjkeponbeekaaGreatDoor
open Go.aw
abbrev qe:=List (Int×List ah)
def cW(n:qe):List Int:=n.map (·.1)
def b_(n:qe)(P:List ah):List ah:=(n.map (·.2)).flatten++P
structure cM (D:ak) (A:qe) (no:Int) (l:List ah) (k:Nat):Prop where
 tidy:Tidy D.files
 full:∀x∈A,aq D.files (ay x.1)=some (dQ (az x.2))
 last:∃s,aq D.files (ay no)=some ⟨az l,s,true⟩/\(az (l.take k)).length<=s/\s<=(az l).length
 kl:k<=l.length
 Wm:aq D.files bW=some (dQ (bN (cW A++[no])))
 Ad:∀n∈cW A++[no],1<=n/\n<1000000000000
 y_:(cW A++[no]).Pairwise (·<·)
 evs:∀e∈b_ A l,e.Ok/\e.aN.length<=64
 many:A.length+1<=64
structure Hu (V:dv) (A:qe) (no:Int) (l:List ah):Prop where
 a_:V.a_=cW A++[no]
 bytes:V.bytes=((az l).length:Nat)
 next:no<V.next/\V.next<=1000000000000
def fy{n:Int}(d:cY (ay n)=true\/0<=n/\n<1000000000000):ay n≠bW/\ay n≠aO:=by
 have b:bW.data.toList.take 4≠dG:=by decide+kernel
 have c:aO.data.toList.take 4≠dG:=by decide+kernel
 have P:(ay n).data.toList.take 4=dG\/(ay n).data.toList=[]:=by
  unfold ay;rw[oA];unfold ax;split
  ·exact .inr rfl
  ·exact .inl (by simp[dG])
 refine⟨λa=>?_,λa=>?_⟩
 ·rw[a]at P
  rcases P with P|P
  ·exact b P
  ·revert P;decide+kernel
 ·rw[a]at P
  rcases P with P|P
  ·exact c P
  ·revert P;decide+kernel
def sk{a n:Int}(P:0<=a/\a<1000000000000)(b:ay n=ay a):n=a:=Jj P.1 P.2 (Np b)
variable{w:ByteArray}{e:Int}{u:List UInt8}{H:List ah}{a c i:Nat}{Z f:ZN}{d:WP}{b k:World}{W:bS}{b2:dv}
def tX(P:0<=e):cY (ay e)=true↔e<1000000000000:=by
 constructor
 ·intro n
  by_cases a:e<1000000000000
  ·exact a
  ·have:ay e=cF []:=by unfold ay ax;rw[Zx (.inr oM)]
   have b:cY (cF [])=false:=by decide+kernel
   rw[this,b]at n;cases n
 ·intro n;exact Jk P n
def jU(n:List ah)(P:Nat):(az (n.take P)).length<=(az n).length:=by
 have a:=ZX P n
 conv=>rhs;rw[<-a,gv,QX]
 omega
def Ck(n:qe)(no:Int)(P a:List ah):b_ (n++[(no,P)]) a=b_ n P++a:=by simp[b_]
section
variable {D E:ak} {A:qe} {no:Int} {l x:List ah} {k j:Nat} {V:dv}
def cM.same(n:cM D A no l k)(c:Tidy E.files)(P:∀a∈cW A++[no],aq E.files (ay a)=aq D.files (ay a))(d:aq E.files bW=aq D.files bW):cM E A no l k:=
 ⟨c,λx b=>(P x.1 (ZV _ (Xk.2 ⟨x,b,rfl⟩))).trans (n.full x b),by
  obtain⟨e,f,g⟩:=n.last;exact⟨e,(P no (ZW _ (List.mem_singleton.2 rfl))).trans f,g⟩,n.kl,d.trans n.Wm,n.Ad,n.y_,n.evs,n.many⟩
def cM.files(P:cM D A no l k)(n:E.files=D.files):cM E A no l k:=P.same (by rw[n];exact P.tidy) (λ_ _=>by rw[n]) (by rw[n])
def cM.tZ(n:cM D A no l k):1<=no/\no<1000000000000:=n.Ad no (ZW _ (List.mem_singleton.2 rfl))
def cM.U_(P:cM D A no l k):∀n∈A,ay n.1≠ay no:=λn b c=>by
 have d:=P.tZ;have:=sk ⟨oM,d.2⟩ c;have a:=P.y_;rw[List.pairwise_append]at a;have:=a.2.2 n.1 (Xk.2 ⟨n,b,rfl⟩) no (List.mem_singleton.2 rfl);omega
def cM.put(n:cM D A no l k){s b:Nat}(P:E.files=aI D.files (ay no) ⟨az H,s,true⟩)(e:b<=H.length)(f:(az (H.take b)).length<=s)(g:s<=(az H).length)(h:∀a∈H,a.Ok/\a.aN.length<=64):cM E A no H b:=
 ⟨by rw[P];exact n.tidy.aI _ _,λc d=>by rw[P,bB,Zq (by simpa using n.U_ c d)];exact n.full c d,⟨s,by rw[P,bB];simp,f,g⟩,e,by
  have:=(fy (n:=no) (.inr (by have:=n.tZ;omega))).1;rw[P,bB,Zq (by simpa using this.symm)];exact n.Wm,n.Ad,n.y_,λa P=>by
  rcases Q6.1 P with F|F
  ·exact n.evs a (ZV _ F)
  ·exact h a F,n.many⟩
def cM.XG(P:cM D A no l k):∀n∈l,n.Ok/\n.aN.length<=64:=λn a=>P.evs n (ZW _ a)
def cM.LU(n:Hu V A no l):V.last=ay no:=by unfold dv.last;rw[n.a_];simp[ay]
def cM.mono(n:cM D A no l k)(P:j<=k):cM D A no l j:=by
 obtain⟨a,b,c,d⟩:=n.last;exact⟨n.tidy,n.full,⟨a,b,Xx (Cm P) c,d⟩,Xx P n.kl,n.Wm,n.Ad,n.y_,n.evs,n.many⟩
def EE(n:cM D A no l k):((D.sync (ay no)).1=0/\cM (D.sync (ay no)).2 A no l l.length)\/((D.sync (ay no)).1≠0/\cM (D.sync (ay no)).2 A no l k):=by
 rcases nU D (ay no)with⟨P,a⟩|⟨P,d,b,a⟩
 ·exact .inr ⟨P,n.files a⟩
 ·obtain⟨e,c,f,g⟩:=n.last
  rw[c]at b;cases b
  exact .inl ⟨P,n.put a (Q4 _) (by rw[List.take_length];exact Q4 _) (Q4 _) n.XG⟩
def Cn(m:Tidy D.files)(o:0<=V.next):((bz V D).1≠0/\(bz V D).2.1=V/\Tidy (bz V D).2.2.files/\∀x,x≠ay V.next->x≠aO->aq (bz V D).2.2.files x=aq D.files x)\/
  ((bz V D).1=0/\V.next<1000000000000/\V.a_.length+1<=64/\aq D.files (ay V.next)=none/\(bz V D).2.1=⟨V.size,V.a_++[V.next],0,V.next+1⟩/\Tidy (bz V D).2.2.files/\aq (bz V D).2.2.files (ay V.next)=some (dQ [])/\
   aq (bz V D).2.2.files bW=some (dQ (bN (V.a_++[V.next])))/\∀x,x≠ay V.next->x≠aO->x≠bW->aq (bz V D).2.2.files x=aq D.files x):=by
 unfold bz;dsimp only;rw[show cF (ax V.next)=ay V.next from rfl];rcases lE D (ay V.next)with⟨d,f⟩|⟨d,f,w,p⟩
 ·rw[Zx d]
  exact .inl ⟨d,rfl,by show Tidy (D.create _).2.files;rw[f];exact m,λx _ _=>by show aq (D.create (ay V.next)).2.files x=_;rw[f]⟩
 have q:=(tX o).1 f;obtain⟨y,nt⟩:=fy (n:=V.next) (.inr ⟨o,q⟩);rw[Zq (show¬(D.create (ay V.next)).1≠0 by simpa using d)];have g:tY (ay V.next) D (D.create (ay V.next)).2:=(tY.refl m).put p;have r:aq (D.create (ay V.next)).2.files (ay V.next)=some ⟨[],0,false⟩:=by rw[p,bB];simp
 generalize(D.create (ay V.next)).2=P at g r;unfold nq;dsimp only;rw[show cF (ax V.next)=ay V.next from rfl];have a:∀{F:ak},Tidy F.files->(∀x,x≠ay V.next->x≠aO->aq F.files x=aq D.files x)->Tidy (F.delete (ay V.next)).2.files/\∀x,x≠ay V.next->x≠aO->aq (F.delete (ay V.next)).2.files x=aq D.files x:=by
  intro F l s;rcases jD F (ay V.next)with e|e
  ·rw[e];exact⟨l,s⟩
  ·rw[e];exact⟨l.bL _,λx n b=>by rw[gi l,Zq (by simpa using n)];exact s x n b⟩
 rcases nU P (ay V.next)with⟨h,c⟩|⟨h,E,t,c⟩
 ·rw[Zx h]
  have:=a (F:=(P.sync (ay V.next)).2) (by rw[c];exact g.1) λx n _=>by rw[c];exact g.2 x n
  exact .inl ⟨h,rfl,this⟩
 rw[r]at t;cases t
 have i:tY (ay V.next) D (P.sync (ay V.next)).2:=g.put c;have u:aq (P.sync (ay V.next)).2.files (ay V.next)=some (dQ []):=by rw[c,bB];simp
 rw[Zq (show¬(P.sync (ay V.next)).1≠0 by simpa using h)];generalize(P.sync (ay V.next)).2=z at i u;rcases KW i.1 (V.a_++[V.next])with⟨j,k⟩|⟨j,k,A,B,v⟩
 ·rw[Zx j]
  have:=a (F:=(bA z (V.a_++[V.next])).2) k.1 λx n b=>(k.2 x b).trans (i.2 x n);exact .inl ⟨j,rfl,this⟩
 ·rw[Zq (by simpa using j)]
  refine .inr ⟨rfl,q,by simpa using k,w,?_,A,(v _ nt y).trans u,B,λx n b C=>(v x b C).trans (i.2 x n)⟩;rw[wrap_i64 bc]
def cM.bz(b:cM D A no l l.length)(i:Hu V A no l):((bz V D).1≠0/\(bz V D).2.1=V/\cM (bz V D).2.2 A no l l.length)\/
  ((bz V D).1=0/\(bz V D).2.1.size=V.size/\cM (bz V D).2.2 (A++[(no,l)]) V.next [] 0/\Hu (bz V D).2.1 (A++[(no,l)]) V.next []/\(bz V D).2.1.next=V.next+1):=by
 have H:=b.tZ;have I:=i.next;have q:∀n∈cW A++[no],n<V.next:=λn a=>by
  rcases Q6.1 a with P|P
  ·have j:=b.y_
   rw[List.pairwise_append]at j;have:=j.2.2 n P no (List.mem_singleton.2 rfl);omega
  ·have:=List.mem_singleton.1 P;omega
 have k:∀n∈cW A++[no],ay n≠ay V.next:=λn a d=>by
  have P:=b.Ad n a;have j:=q n a;have:=sk (a:=n) ⟨oM,P.2⟩ d.symm;omega
 have e:∀n∈cW A++[no],ay n≠bW/\ay n≠aO:=λn a=>fy (.inr (by have:=b.Ad n a;omega));have u:bW≠ay V.next:=λd=>by
  by_cases J:V.next<1000000000000
  ·exact(fy (n:=V.next) (.inr oM)).1 d.symm
  ·have v:ay V.next=cF []:=by unfold ay ax;rw[Zx (.inr oM)]
   rw[v]at d
   revert d;decide+kernel
 rcases Cn (V:=V) b.tidy oM with⟨m,r,g,o⟩|⟨m,r,g,o,f,w,x,s,t⟩
 ·exact .inl ⟨m,r,b.same g (λn a=>o _ (k n a) (e n a).2) (o _ u λd=>MT d.symm)⟩
 ·rw[i.a_]at g s
  have y:A.length+1+1<=64:=by simpa[cW]using g
  have h:cW (A++[(no,l)])=cW A++[no]:=by simp[cW]
  refine .inr ⟨m,by rw[f],⟨w,λp z=>?_,⟨0,x,by simp[az],Qj _⟩,Q4 _,by rw[h];exact s,?_,?_,by rw[Ck,List.append_nil];exact b.evs,by simpa using y⟩,⟨by rw[f,h,i.a_],by rw[f];simp[az],by rw[f];simp only;omega⟩,by rw[f]⟩
  ·rcases Q6.1 z with P|P
   ·have c:p.1∈cW A++[no]:=ZV _ (Xk.2 ⟨p,P,rfl⟩)
    rw[t _ (k _ c) (e _ c).2 (e _ c).1];exact b.full p P
   ·rw[List.mem_singleton]at P
    subst P;have c:no∈cW A++[no]:=ZW _ (List.mem_singleton.2 rfl);obtain⟨B,C,E,K⟩:=b.last;rw[List.take_length]at E;have F:B=(az l).length:=oM
    show aq _ (ay no)=_;rw[t _ (k _ c) (e _ c).2 (e _ c).1,C,F];rfl
  ·rw[h]
   intro n a;rcases Q6.1 a with P|P
   ·exact b.Ad n P
   ·have:=List.mem_singleton.1 P;omega
  ·rw[h,List.pairwise_append]
   exact⟨b.y_,List.pairwise_singleton _ _,λn a L c=>by have:=List.mem_singleton.1 c;have:=q n a;omega⟩
def cM.begin(c:cM D A no l k)(P:Hu V A no l):((aK V D).1≠0/\(aK V D).2.1=V/\cM (aK V D).2.2 A no l k)\/
  ((aK V D).1=0/\(aK V D).2.1.size=V.size/\cM (aK V D).2.2 (A++[(no,l)]) V.next [] 0/\Hu (aK V D).2.1 (A++[(no,l)]) V.next []/\(aK V D).2.1.next=V.next+1):=by
 have d:¬V.a_=[]:=by rw[P.a_];simp
 have e:aK V D=if(D.sync (ay no)).1≠0 then((D.sync (ay no)).1,V,(D.sync (ay no)).2)else Go.Proofs.YtjgjkeponbeekaaGreatDoor.bz V (D.sync (ay no)).2:=by
  unfold aK;rw[Zq d,cM.LU P]
 rw[e];rcases EE c with⟨n,a⟩|⟨n,a⟩
 ·rw[Zq (by simpa using n)]
  rcases a.bz P with⟨f,g,h⟩|b
  ·exact .inl ⟨f,g,h.mono c.kl⟩
  ·exact .inr b
 ·rw[Zx n];exact .inl ⟨n,rfl,a⟩
end
def bI(n:List ah):List UInt8×Int:=if n.any eP then([],3)else(az n,0)
def Ll(V:Laid b)(C:Row ku 96 b f d a H)(W:∀n,f n->n<b.heap.size)(hl:H.length<=20000000):
  PP 142 #[.slice d a c] b (Ok λX q=>∃E F I l,X= .tuple #[.slice E F I,ZH (bI H).2]/\aV gl 5 l q E F I (bI H).1/\ai b q/\∀n,l n->b.heap.size<=n):=by
 have hn:=C.len;refine xq ⟨λJ K L N O q=>∃(P:Nat) (l:ZN),O=P/\P<=a/\J=a-P/\(∀e∈H.take P,e.Ok/\e.aN.length<=64)/\(az (H.take P)).length<=675*P/\aV gl 5 l q K L N (az (H.take P))/\ai b q/\∀n,l n->b.heap.size<=n,
  ⟨_,0,λ_=>False,rfl,Qj _,rfl,sM,by simp[az],aV.nil b,aj.refl _,λ_ u=>u.elim⟩,?_⟩
 rintro J K L N O _ Y ⟨P,l,rfl,hj,rfl,v,Z,o,m,w⟩;refine al.dec (λa9=>?_) (λb0=>?_)
 ·obtain⟨n,x,e,es,rfl,_,_,Q,j,a1,n1,c1,rfl,hd,s⟩:=(C.af m).HU (i:=P) oM
  have g:=λi (hi:i<10)=>j i hi;refine⟨n,x,rfl,oM,oM,_,_,_,_,_,_,_,_,_,_,_,_,g 0 dC,g 1 dC,g 2 dC,g 3 dC,g 4 dC,g 5 dC,g 6 dC,g 7 dC,g 8 dC,g 9 dC,PA.mk λw2 k2 s2 g2=>?_⟩;refine storeAll (aH e a1 n1 c1) g2 rfl λw3 k3 s3 h=>?_;have p:ai Y w3:=k2.new k3 λn k=>.inr oM;refine⟨_,_,_,_,_,_,_,_,_,_,_,_,ae h rfl,ae h rfl,ae h rfl,ae h rfl,ae h rfl,ae h rfl,ae h rfl,ae h rfl,ae h rfl,ae h rfl,?_⟩;refine PC.ok (En (V.af (m.then p)) (hd.af p) s λn k=>by have:=W n k;have:=(m.then p).size;omega) ?_;rintro _ R ⟨a4,n4,c4,F4,rfl,r,S,T⟩
  by_cases t:e.aN.length<=64
  ·have y:=rk s t
   rw[y]at r⊢;have b1:=MU s t;refine⟨_,_,_,_,rfl,al.eO (λj=>Zz rfl j) (λ_=>?_)⟩;have z:=p.then S;have a0:Row gl 1 R F4 a4 n4 (od e):=r.row (bytes:=1) dC (by unfold aT;dsimp only;omega);have b2:=z.size;have b3:=p.size;refine Aj (o.af z) tS a0 (λe=>r.Ot e) (λn k=>⟨r.aE n k,λj=>by have:=o.aE n (o.self n j);have:=T n k;omega⟩) ba (by unfold maxLen;omega) λb4 c5 w5 F5 a3 a6 a7 _=>?_;have A:H.take (P+1)=H.take P++[e]:=by rw[Qw,Q];rfl
   refine⟨_,_,_,rfl,a-(P+1),oM,P+1,F5,an oM,oM,rfl,?_,?_,?_,(m.then z).new a6 λn k=>.inr (by have:=w n (o.self n k);omega),?_⟩
   ·rw[A]
    intro a2 B;rcases Q6.1 B with M|M
    ·exact v a2 M
    ·simp at M;subst M;exact⟨s,t⟩
   ·rw[A,ph];simp;omega
   ·rw[A,ph];exact a3
   ·intro n k
    have:=m.size;rcases a7 n k with M|M|M
    ·exact w n M
    ·have:=T n M;omega
    ·omega
  ·have y:=yp t
   rw[y]at r⊢;refine⟨_,_,_,_,rfl,al.eO (λ_=>?_) (λj=>Zz j dC)⟩;have a5:H.any eP=true:=List.any_eq_true.2 ⟨e,QZ Q,by unfold eP;simp;omega⟩;rw[show bI H=([],3) by unfold bI;rw[Zx a5]];exact Ok.mk ⟨none,0,0,λ_=>False,rfl,aV.nil R,(m.then p).then S,λ_ u=>u.elim⟩
 ·obtain rfl:P=a:=oM
  rw[Qz oM]at v Z o;have a8:H.any eP=false:=by
   rw[<-Bool.not_eq_true];intro j;obtain⟨e,he,U⟩:=List.any_eq_true.1 j;have:=(v e he).2;unfold eP at U;simp at U;omega
  rw[show bI H=(az H,0) by unfold bI;rw[Zq (by simp[a8])]];exact Ok.mk ⟨_,_,_,l,rfl,o,m,w⟩
def bC(no:Int)(d:List UInt8)(D:ak):Int×ak:=
 let n:=cF (ax no)
 let P:=D.create n
 if P.1≠0 then(P.1,P.2)else
 let a:=P.2.append n d
 if a.1≠0 then(a.1,(a.2.delete n).2)else
 let b:=a.2.sync n
 if b.1≠0 then(b.1,(b.2.delete n).2)else
 let c:=bA b.2 [no]
 (c.1,if c.1≠0 then(c.2.delete n).2 else c.2)
def Ou{D:ak}{no:Int}(hL:Laid b)(L:aY b k a D f)(R:aM no)(e:Row gl 1 k Z d c u)(c0:d=none->c=0/\i=0)(b2:∀n,Z n->f n):
  PP 143 #[ZL a,ZH no,.slice d c i] k (Ok (oe b k a f (bC no u D))):=by
 have e2:=L.gr.size;have S:∀n,f n->n<k.heap.size:=by obtain⟨a3,f1,f2,T,U⟩:=L;exact U
 refine zr (PA.mk λx k1 s1 g1=>PA.mk λw2 V s2 g2=>PC.ok (kh (hL.af ((L.gr.then k1).then V)) R) ?_);rintro _ W ⟨rfl,M⟩;have z3:=M.size;refine⟨_,rfl,PA.mk λw4 X s4 g4=>PS.mk g4 sM λY k5 s5 g5=>?_⟩
 let s:ZN:=λn=>f n\/(n=k.heap.size\/n=x.heap.size\/n=W.heap.size)
 have b3:ai k Y:=((((k1.then V).then M).then X)).new k5 λn e=>.inr oM;have d0:aY b Y a D s:=L.add b3 λn e=>by omega
 let y:World->Int->Prop:=λh l=>h.heap[k.heap.size]? =some (.cells #[ZL a] 93 (0,0))/\h.heap[x.heap.size]? =some (.cells #[ZH l] 34 (0,0))/\h.heap[W.heap.size]? =some (.cells #[.string (cF (ax no))] 9 (0,0))
 have C5:y Y 0:=⟨k5.get (X.get (M.get (V.get g1 id) id) id) oM,k5.get (X.get (M.get g2 id) id) oM,g5⟩
 have g:∀{h o:World} {l:Int},y h l->aj (dS s) h o->y o l:=λm t=>
  ⟨t.get m.1 λp=>p (.inr (.inl rfl)),t.get m.2.1 λp=>p (.inr (.inr (.inl rfl))),t.get m.2.2 λp=>p (.inr (.inr (.inr rfl)))⟩
 have H:∀{h o:World},aj (dS f) k h->aj (dS s) h o->aj (dS f) k o:=λd n=>d.then (n.mono λn _ e q=>e (.inl q));have P:∀{h:World} {l B:Int} {v:ak} {κ:ZU},y h l->aY b h a v s->aj (dS f) k h->(∀o,y o B->aY b o a v s->aj (dS f) k o->aj (·=x.heap.size) h o->κ o)->PS h ⟨x.heap.size,0,none⟩ (ZH B) κ:=by
  intro h l B v κ m hN t a0;have h1:=aA m.2.1;refine PS.mk m.2.1 sM λo z e3 d1=>a0 o ⟨z.get m.1 oM,d1,z.get m.2.2 oM⟩ ?_ (t.then (z.mono λn _ e q=>by have:=S n q;omega)) z;obtain⟨a3,f1,f2,T,U⟩:=hN;exact⟨a3,f1.keep z λn e l=>(T n e).2 (.inr (.inr (.inl l))),f2.new z λn e=>.inr oM,T,λn e=>Qk (U n e) z.size⟩
 have j:∀{I:Int×ak} (l:Int) (v:ak) (h:World),aY b h a v s->aj (dS f) k h->y h l->I=(l,if l≠0 then(v.delete (cF (ax no))).2 else v)->
   Lv ZP (λb4=>∃b5:Int,b4.cell? ⟨x.heap.size,0,none⟩=some (ZH b5)/\Ok (oe b k a f I) (.returned (ZH b5)) b4) (λch h=>Ok (oe b k a f I) (.panicked ch) h)
    ([{target:=.fn (.func 212) #[ZL x.heap.size,ZL k.heap.size,ZL W.heap.size],args:= #[]}]:List Deferred) .returning h:=by
  intro I l v h p t m hr;refine Lv.one sM kR (CallsD.mono (ud (R:=λB J=>B= .returned (.tuple #[])/\∃b6:Int,J.cell? ⟨x.heap.size,0,none⟩=some (ZH b6)/\Ok (oe b k a f I) (.returned (ZH b6)) J) ⟨_,ae m.2.1 rfl,al.eO (λr=>⟨_,ae m.1 rfl,_,ae m.2.2 rfl,PC.ok p.delete ?_⟩) (λA=>⟨rfl,_,ae m.2.1 rfl,Ok.mk ?_⟩)⟩) ?_)
  ·rintro _ wb ⟨rfl,d2,kb⟩
   have d3:=g m kb;refine⟨_,rfl,rfl,_,ae d3.2.1 rfl,Ok.mk ?_⟩;rw[hr,Zx r];exact⟨rfl,d2.mono λn e=>.inl e,H t kb⟩
  ·rw[hr,Zq (by simpa using A)]
   exact⟨rfl,p.mono λn e=>.inl e,t⟩
  ·rintro B u' J ⟨rfl,rfl,S⟩
   exact Lv.ret rfl S
 refine⟨_,ae C5.1 rfl,_,ae C5.2.2 rfl,PC.ok d0.create ?_⟩;rintro _ w6 ⟨rfl,b7,k6⟩;have C6:=g C5 k6;have d4:=H (ai.keep b3) k6;have hW:bC no u D=if(D.create (cF (ax no))).1≠0 then((D.create (cF (ax no))).1,(D.create (cF (ax no))).2)else
   if((D.create (cF (ax no))).2.append (cF (ax no)) u).1≠0 then(((D.create (cF (ax no))).2.append (cF (ax no)) u).1,(((D.create (cF (ax no))).2.append (cF (ax no)) u).2.delete (cF (ax no))).2)else
   if((((D.create (cF (ax no))).2.append (cF (ax no)) u).2).sync (cF (ax no))).1≠0 then(((((D.create (cF (ax no))).2.append (cF (ax no)) u).2).sync (cF (ax no))).1,(((((D.create (cF (ax no))).2.append (cF (ax no)) u).2).sync (cF (ax no))).2.delete (cF (ax no))).2)else
   ((bA ((((D.create (cF (ax no))).2.append (cF (ax no)) u).2).sync (cF (ax no))).2 [no]).1,if(bA ((((D.create (cF (ax no))).2.append (cF (ax no)) u).2).sync (cF (ax no))).2 [no]).1≠0 then((bA ((((D.create (cF (ax no))).2.append (cF (ax no)) u).2).sync (cF (ax no))).2 [no]).2.delete (cF (ax no))).2 else(bA ((((D.create (cF (ax no))).2.append (cF (ax no)) u).2).sync (cF (ax no))).2 [no]).2):=rfl
 rw[hW];generalize D.create (cF (ax no))=cr at b7⊢;refine⟨_,rfl,P C6 b7 d4 λJ C b8 a5 k7=>⟨_,ae C.2.1 rfl,al.eO (λr=>?_) (λA=>?_)⟩⟩
 ·refine⟨_,ae C.2.1 rfl,P C b8 a5 λw8 C8 N a6 k8=>⟨_,ae C8.2.1 rfl,Ok.mk ?_⟩⟩
  rw[Zx r];exact⟨rfl,N.mono λn e=>.inl e,a6⟩
 rw[Zq (by simpa using A)];have d5:Row gl 1 J Z d c u:=e.keep a5 λn e p=>p (b2 n e);refine⟨_,ae C.1 rfl,_,ae C.2.2 rfl,PC.ok (b8.append d5 c0 λn e=>.inr (.inl (b2 n e))) ?_⟩;rintro _ w8 ⟨rfl,N,k8⟩;have C8:=g C k8;have a6:=H a5 k8;generalize cr.2.append (cF (ax no)) u=ap at N⊢;refine⟨_,rfl,P C8 N a6 λw9 E b9 c1 k9=>⟨_,ae E.2.1 rfl,al.eO (λr=>?_) (λA=>?_)⟩⟩
 ·refine⟨_,ae E.2.1 rfl,P E b9 c1 λc2 a7 O a1 a8=>?_⟩
  rw[Zx r];exact j _ _ c2 O a1 a7 (by rw[Zx r])
 rw[Zq (by simpa using A)];refine⟨_,ae E.1 rfl,_,ae E.2.2 rfl,PC.ok b9.sync ?_⟩;rintro _ c2 ⟨rfl,O,a8⟩;have a7:=g E a8;have a1:=H c1 a8;generalize ap.2.sync (cF (ax no))=sy at O⊢;refine⟨_,rfl,P a7 O a1 λa9 K a4 b1 e4=>⟨_,ae K.2.1 rfl,al.eO (λr=>?_) (λA=>?_)⟩⟩
 ·refine⟨_,ae K.2.1 rfl,P K a4 b1 λF b0 a2 c3 Q=>?_⟩
  rw[Zx r];exact j _ _ F a2 c3 b0 (by rw[Zx r])
 rw[Zq (by simpa using A)];refine⟨_,ae K.1 rfl,PA.mk λF Q e5 c4=>?_⟩;have a2:aY b F a sy.2 (λn=>s n\/n=a9.heap.size):=a4.add Q λn e=>by subst e;exact⟨Q4 _,aA c4⟩
 have c5:Row aP 8 F (·=a9.heap.size) (ZM a9.heap.size) 1 [no]:=Row.lit c4 [no] rfl (λc6 q=>by simp at q;subst q;exact R) (by unfold aT;simp);refine PC.ok (a2.bA hL.qf c5 (λc6 q=>by simp at q;subst q;exact R) λn e=>.inr (.inr e)) ?_;rintro _ d6 ⟨rfl,c7,d7⟩;have w:aj (dS s) F d6:=d7.mono λn _ e hy=>e (.inl hy);have b0:y F sy.1:=g K (ai.keep Q);have d8:=g b0 w;have c8:=H (b1.af Q) w;exact⟨_,rfl,P d8 (c7.mono λn e=>.inl e) c8 λd9 e0 c9 e1 e6=>j _ _ d9 c9 e1 e0 rfl⟩
def jJ:List Int->ak->ak
 |[],D=>D
 |no::n,D=>if(D.delete (ay no)).1≠0 then(D.delete (ay no)).2 else jJ n (D.delete (ay no)).2
def aQ(n:dv)(D:ak)(P:List ah)(a:Int):pk:=
 if(bI P).2≠0 then⟨(bI P).2,[],n,D⟩else
 if(bC n.next (bI P).1 D).1≠0 then⟨(bC n.next (bI P).1 D).1,[],n,(bC n.next (bI P).1 D).2⟩else
 aR (jJ n.a_ (bC n.next (bI P).1 D).2) a
def Lm(c g:World)(d h:Nat)(i:dv)(a:ZN)(P:pk)(e:Value)(b:World):Prop:=
 ∃G,ju b d h G i/\(∀n,G n->c.heap.size<=n/\¬a n)/\aj (dS a) g b/\
  ((P.no≠0/\e= .tuple #[.pointer none,ZH P.no]/\aY c b d P.D (λn=>a n\/G n))\/
   (P.no=0/\∃f,e= .tuple #[ZL f,ZH 0]/\cE c b d f P.V P.D (λn=>a n\/G n)))
def Iz{D:ak}{U a4:Nat}(z:Laid b)(V:cE b k a c b2 D f)(W:Row ku 96 k Z d U H)(b3:∀n,Z n->n<k.heap.size)(hl:H.length<=20000000):
  PP 87 #[ZL a,ZL c,.slice d U a4,ZH e] k (Ok (Lm b k a c b2 f (aQ b2 D H e))):=by
 obtain⟨G,I,u,A⟩:=id V;have c0:=u.many;refine vl (PC.ok (Ll (z.af V.gr) W b3 hl) ?_);rintro _ w1 ⟨a5,n1,c1,F1,rfl,J,p,b5⟩;have hz:∀n,(f n\/G n)->n<k.heap.size:=by obtain⟨c4,f1,f2,f3,f4⟩:=I;exact f4
 refine⟨_,_,_,_,rfl,al.eO (λh=>Ok.mk ?_) (λq=>PC.ok (Rj (u.af p)) ?_)⟩
 ·rw[show aQ b2 D H e=⟨(bI H).2,[],b2,D⟩ by unfold aQ;rw[Zx h]]
  exact⟨G,u.af p,A,ai.keep p,.inl ⟨h,rfl,I.af p⟩⟩
 rintro _ _ ⟨rfl,rfl⟩;have b6:aY b w1 a D (λn=>(f n\/G n)\/F1 n):=I.add p λn P=>⟨b5 n P,J.aE n P⟩
 have d1:(bI H).1.length<=13500000000:=by
  unfold bI;split
  ·simp
  ·rename_i b8
   have:∀m∈H,m.Ok/\m.aN.length<=64:=λm X=>by
    obtain⟨i,hi⟩:=List.mem_iff_getElem?.1 X;obtain⟨n,v,es,-,-,-,-,a5,n1,c1,-,-,b9⟩:=W.el i m hi;refine⟨b9,?_⟩;have:¬eP m=true:=λK=>b8 (List.any_eq_true.2 ⟨m,X,K⟩);unfold eP at this;simp at this;omega
   have:=IA this;show(az H).length<=_;omega
 refine⟨_,rfl,PC.ok (Ou z b6 u.By (J.row (bytes:=1) dC ba) (λm=>J.Ot m) λn P=>.inr P) ?_⟩;rintro _ Y ⟨rfl,c2,k2⟩;have L:aY b Y a (bC b2.next (bI H).1 D).2 (λn=>f n\/G n):=c2.mono λn P=>.inl P;have M:=(u.af p).keep k2 λn P j=>j (.inl (.inr P));have a6:aj (dS f) k Y:=(ai.keep p).then (k2.mono λn _ P l=>P (.inl (.inl l)));have hC:aQ b2 D H e=if(bC b2.next (bI H).1 D).1≠0 then⟨(bC b2.next (bI H).1 D).1,[],b2,(bC b2.next (bI H).1 D).2⟩else aR (jJ b2.a_ (bC b2.next (bI H).1 D).2) e:=by
  unfold aQ;rw[Zq (by simpa using q)]
 rw[hC];generalize bC b2.next (bI H).1 D=w at L⊢;refine⟨_,rfl,al.eO (λh=>Ok.mk ?_) (λq=>?_)⟩
 ·rw[Zx h]
  exact⟨G,M,A,a6,.inl ⟨h,rfl,L⟩⟩
 rw[Zq (by simpa using q)];refine⟨λo=>aY b o a (jJ b2.a_ w.2) (λn=>f n\/G n)/\ju o a c G b2/\aj (dS f) k o,PC.ok (Gy M) ?_,?_⟩
 ·rintro _ w3 ⟨a3,s,c3,B,rfl,N,O,c5⟩
  have d2:=N.len dC;have Q:aY b w3 a w.2 (λn=>(f n\/G n)\/B n):=L.add O λn P=>⟨c5 n P,N.aE n P⟩
  refine⟨_,_,_,rfl,λa0 a1 o=>∃(g:Nat) (r:ak),a1=g/\g<=s/\a0=s-g/\jJ b2.a_ w.2=jJ (b2.a_.drop g) r/\aY b o a r (λn=>(f n\/G n)\/B n)/\aV aP 3 B o a3 s c3 b2.a_/\ju o a c G b2/\aj (dS f) k o,
   ⟨_,0,w.2,rfl,Qj _,rfl,rfl,Q,N,M.af O,a6.af O⟩,?_⟩
  rintro a0 a1 _ w4 ⟨g,r,rfl,hj,rfl,C,x,R,a7,a8⟩;refine al.dec (λd3=>?_) (λd4=>?_)
  ·have c6:Row aP 8 w4 B a3 s b2.a_:=R.row dC ba
   obtain⟨n,v,t,rfl,l,c7,K⟩:=c6.oF (i:=g) oM;refine⟨n,v,rfl,oM,oM,t,K,PC.ok (kh (z.af x.gr) c7) ?_⟩;rintro _ w5 ⟨rfl,E⟩;refine⟨_,rfl,PC.ok (x.af E).delete ?_⟩;rintro _ w6 ⟨rfl,S,T⟩;have b4:b2.a_.drop g=t::b2.a_.drop (g+1):=by
    obtain⟨c8,rfl⟩:=Qv.1 l;exact X4 c8
   rw[b4]at C;have F:jJ b2.a_ w.2=if(r.delete (cF (ax t))).1≠0 then(r.delete (cF (ax t))).2 else jJ (b2.a_.drop (g+1)) (r.delete (cF (ax t))).2:=C
   have a9:=(a7.af E).keep T λn P j=>j (.inl (.inr P));have b0:aj (dS f) k w6:=(a8.af E).then (T.mono λn _ P l=>P (.inl (.inl l)));have c9:=(R.af E).keep T λn P j=>j (.inr P);generalize r.delete (cF (ax t))=b7 at F S⊢;refine⟨_,rfl,al.eO (λh=>?_) (λq=>?_)⟩
   ·rw[F,Zx h]
    exact⟨S.mono λn P=>.inl P,a9,b0⟩
   ·rw[Zq (by simpa using q)]at F
    exact⟨s-(g+1),oM,g+1,b7.2,an oM,oM,rfl,F,S,c9,a9,b0⟩
  ·obtain rfl:g=s:=oM
   rw[List.drop_of_length_le oM]at C;rw[C];exact⟨x.mono λn P=>.inl P,a7,a8⟩
 ·rintro _ w3 ⟨Q,b1,a2⟩
  refine PC.ok (IB (size:=e) z Q) ?_;rintro _ w4 (⟨h,rfl,x,y⟩|⟨q,q2,d5,n4,d6,G4,rfl,R,d0,y,-,-,-⟩)
  ·exact⟨_,_,_,_,_,rfl,Ok.mk ⟨G,b1.keep y λn P j=>j (.inr P),A,a2.then (y.mono λn _ P l=>P (.inl l)),.inl ⟨h,rfl,x⟩⟩⟩
  ·exact⟨_,_,_,_,_,rfl,Ok.mk ⟨G,b1.keep y λn P j=>j (.inr P),A,a2.then (y.mono λn _ P l=>P (.inl l)),.inr ⟨q,q2,rfl,d0.mono λn P=>.inl P⟩⟩⟩
def qR{l:List ah}(P:∀n∈l,n.Ok/\n.aN.length<=64):bE (az l)=(l,(az l).length):=by
 have:=yE P [];rw[List.append_nil,rU]at this;simpa using this
def EP(n:List ah)(P:Nat):(az n).take (az (n.take P)).length=az (n.take P):=by
 conv=>lhs;rw[<-ZX P n,gv]
 rw[show(List.take P (List.take P n++List.drop P n))=n.take P by rw[ZX]];exact List.take_left
def xM(n:0<=e/\e<1000000000000):gZ (ay e)=(e,true):=by
 unfold gZ ay;rw[oA,pD n.1 n.2];simp;omega
def Ug(n:Int)(P:ByteArray):n<=eF n P:=by unfold eF;split<;>omega
def Nq:∀(P:List ByteArray) (n:Int),n<=P.foldl eF n
 |[],n=>Int.le_refl n
 |s::P,n=>Int.le_trans (Ug n s) (Nq P _)
def Jl:∀(n:List ByteArray) (b:Int) {P:ByteArray},P∈n->(gZ P).2=true->(gZ P).1+1<=n.foldl eF b
 |d::n,b,P,a,c=>by
  rcases Q2.1 a with rfl|a
  ·refine Int.le_trans ?_ (Nq n _)
   unfold eF;rw[Zx c];omega
  ·exact Jl n _ a c
def IT{D:ak}(n:0<=e/\e<1000000000000)(a:(aq D.files (ay e)).isSome=true):e<ix D:=by
 have P:=Jl D.list 1 (ER.2 a) (by rw[xM n]);rw[xM n]at P;unfold ix tD;simp only at P;omega
section
variable {D E:ak} {A:qe} {no:Int} {l x:List ah} {k j n s:Nat} {V:dv}
def IV(A:qe)(k:Nat):Nat:=((A.map (·.2)).flatten).length+k
def WW(n:Int)(A:qe):Prop:=∀P∈A,n<=((az P.2).length:Nat)
def IW(h:cM D A no l k)(i:Hu V A no l)(I:∀c∈x,c.Ok)(T:x.length<=20000000)(J:D.Ok)(m:WW V.size A):
  ∃P a b d,cM (aF V D x).2.2 P a b d/\Hu (aF V D x).2.1 P a b/\IV A k<=IV P d/\b_ P b=(if(aF V D x).1=0 then b_ A l++x else b_ A l)/\(aF V D x).2.1.size=V.size/\WW V.size P/\
   ((P=A/\a=no/\(aF V D x).2.1.next=V.next)\/(P=A++[(no,l)]/\a=V.next/\(aF V D x).2.1.next=V.next+1)):=by
 unfold aF
 by_cases u:x.any eP=true
 ·rw[Zx u]
  exact⟨A,no,l,k,h,i,Q4 _,rfl,rfl,m,.inl ⟨rfl,rfl,rfl⟩⟩
 rw[Zq u]
 by_cases v:x=[]
 ·rw[Zx v]
  exact⟨A,no,l,k,h,i,Q4 _,by rw[Zx rfl,v,List.append_nil],rfl,m,.inl ⟨rfl,rfl,rfl⟩⟩
 rw[Zq v];have B:∀c∈x,c.Ok/\c.aN.length<=64:=λc o=>⟨I c o,by
  have:¬eP c=true:=λf=>u (List.any_eq_true.2 ⟨c,o,f⟩);unfold eP at this;simp at this;omega⟩
 have U:=IA B;have K:(az l).length<=262144:=by
  obtain⟨s,w,_⟩:=h.last;exact J.len (cm w)
 have g:∀(n:Int×dv×ak) (P:qe) (a:Int) (b:List ah) (d:Nat),n.1=0->cM n.2.2 P a b d->Hu n.2.1 P a b->(az b).length<=262144->IV A k<=IV P d->b_ P b=b_ A l->n.2.1.size=V.size->WW V.size P->
   ((P=A/\a=no/\n.2.1.next=V.next)\/(P=A++[(no,l)]/\a=V.next/\n.2.1.next=V.next+1))->
   ∃P a b d,cM (if n.1≠0 then n else if(n.2.2.append n.2.1.last (az x)).1≠0 then((n.2.2.append n.2.1.last (az x)).1,n.2.1,(n.2.2.append n.2.1.last (az x)).2)else(0,⟨n.2.1.size,n.2.1.a_,ZG .i64 (n.2.1.bytes+((az x).length:Nat)),n.2.1.next⟩,(n.2.2.append n.2.1.last (az x)).2)).2.2 P a b d/\
    Hu (if n.1≠0 then n else if(n.2.2.append n.2.1.last (az x)).1≠0 then((n.2.2.append n.2.1.last (az x)).1,n.2.1,(n.2.2.append n.2.1.last (az x)).2)else(0,⟨n.2.1.size,n.2.1.a_,ZG .i64 (n.2.1.bytes+((az x).length:Nat)),n.2.1.next⟩,(n.2.2.append n.2.1.last (az x)).2)).2.1 P a b/\IV A k<=IV P d/\
    b_ P b=(if(if n.1≠0 then n else if(n.2.2.append n.2.1.last (az x)).1≠0 then((n.2.2.append n.2.1.last (az x)).1,n.2.1,(n.2.2.append n.2.1.last (az x)).2)else(0,⟨n.2.1.size,n.2.1.a_,ZG .i64 (n.2.1.bytes+((az x).length:Nat)),n.2.1.next⟩,(n.2.2.append n.2.1.last (az x)).2)).1=0 then b_ A l++x else b_ A l)/\
    (if n.1≠0 then n else if(n.2.2.append n.2.1.last (az x)).1≠0 then((n.2.2.append n.2.1.last (az x)).1,n.2.1,(n.2.2.append n.2.1.last (az x)).2)else(0,⟨n.2.1.size,n.2.1.a_,ZG .i64 (n.2.1.bytes+((az x).length:Nat)),n.2.1.next⟩,(n.2.2.append n.2.1.last (az x)).2)).2.1.size=V.size/\WW V.size P/\
    ((P=A/\a=no/\(if n.1≠0 then n else if(n.2.2.append n.2.1.last (az x)).1≠0 then((n.2.2.append n.2.1.last (az x)).1,n.2.1,(n.2.2.append n.2.1.last (az x)).2)else(0,⟨n.2.1.size,n.2.1.a_,ZG .i64 (n.2.1.bytes+((az x).length:Nat)),n.2.1.next⟩,(n.2.2.append n.2.1.last (az x)).2)).2.1.next=V.next)\/
     (P=A++[(no,l)]/\a=V.next/\(if n.1≠0 then n else if(n.2.2.append n.2.1.last (az x)).1≠0 then((n.2.2.append n.2.1.last (az x)).1,n.2.1,(n.2.2.append n.2.1.last (az x)).2)else(0,⟨n.2.1.size,n.2.1.a_,ZG .i64 (n.2.1.bytes+((az x).length:Nat)),n.2.1.next⟩,(n.2.2.append n.2.1.last (az x)).2)).2.1.next=V.next+1)):=by
  intro n P a b d L j e W C o E F f;rw[Zq (by simpa using L)];rw[cM.LU e];rcases oT n.2.2 (ay a) (az x)with⟨r,y⟩|⟨r,X,p,y⟩
  ·rw[Zx r]
   exact⟨P,a,b,d,j.files y,e,C,by rw[Zq r];exact o,E,F,f⟩
  ·rw[Zq (by simpa using r)]
   obtain⟨s,w,M,Y⟩:=j.last;rw[w]at p;cases p
   refine⟨P,a,b++x,d,j.put (s:=s) (by rw[y,gv]) (by have:=j.kl;simp;omega) ?_ (by rw[gv];simp;omega) ?_,⟨e.a_,?_,e.next⟩,C,?_,E,F,f⟩
   ·rw[List.take_append_of_le_length j.kl];exact M
   ·intro c N
    rcases Q6.1 N with H|H
    ·exact j.XG c H
    ·exact B c H
   ·show ZG .i64 _=_
    rw[e.bytes,wrap_i64 bc,gv];simp
   ·rw[Zx rfl,<-o];simp[b_]
 dsimp only
 by_cases f:V.size<=V.bytes
 ·rw[Zx f]
  rcases h.begin i with⟨t,q,z⟩|⟨t,q,z,O,Q⟩
  ·rw[Zx t]
   exact⟨A,no,l,k,z,by rw[q];exact i,Q4 _,by rw[Zq t],by rw[q],m,.inl ⟨rfl,rfl,by rw[q]⟩⟩
  ·refine g _ (A++[(no,l)]) V.next [] 0 t z O (by simp[az]) ?_ (by rw[Ck,List.append_nil]) q ?_ (.inr ⟨rfl,rfl,Q⟩)
   ·have:=h.kl;unfold IV;simp;omega
   ·intro R S
    rcases Q6.1 S with H|H
    ·exact m R H
    ·rw[List.mem_singleton]at H;subst H
     rw[i.bytes]at f;exact f
 ·rw[Zq f]
  exact g (0,V,D) A no l k rfl h i K (Q4 _) rfl rfl m (.inl ⟨rfl,rfl,rfl⟩)
def GY(s:bZ D)(t:Tidy D.files)(a:0<=V.next/\V.next<1000000000000)(b:aq D.files (ay V.next)=none):
  bZ (bz V D).2.2/\((bz V D).1=0\/(bz V D).1=3\/(bz V D).1=12)/\((bz V D).1≠0->aq (bz V D).2.2.files (ay V.next)=none):=by
 obtain⟨x,nt⟩:=fy (n:=V.next) (.inr a);unfold bz;dsimp only;rw[show cF (ax V.next)=ay V.next from rfl];obtain⟨c,d⟩:=s.create (ay V.next);have d:=d ((tX a.1).2 a.2) b;rcases lE D (ay V.next)with⟨e,k⟩|⟨e,k,y,l⟩
 ·rw[Zx e]
  exact⟨c,d.imp id .inr,λ_=>by show aq (D.create _).2.files _=none;rw[k];exact b⟩
 rw[Zq (show¬(D.create (ay V.next)).1≠0 by simpa using e)];have f:tY (ay V.next) D (D.create (ay V.next)).2:=(tY.refl t).put l;have m:aq (D.create (ay V.next)).2.files (ay V.next)=some ⟨[],0,false⟩:=by rw[l,bB];simp
 generalize(D.create (ay V.next)).2=P at f m c;unfold nq;dsimp only;rw[show cF (ax V.next)=ay V.next from rfl];obtain⟨o,g⟩:=c.sync (ay V.next);have g:=g _ m;rw[Zq (show¬(P.sync (ay V.next)).1≠0 by simpa using g)];have h:Tidy (P.sync (ay V.next)).2.files:=by
  rcases nU P (ay V.next)with⟨i,n⟩|⟨i,z,b,n⟩
  ·rw[n];exact f.1
  ·rw[n];exact f.1.aI _ _
 generalize(P.sync (ay V.next)).2=j at h o;obtain⟨p,u⟩:=o.bA h (V.a_++[V.next]);have mt:Tidy (bA j (V.a_++[V.next])).2.files:=by
  rcases KW h (V.a_++[V.next])with⟨-,q,-⟩|⟨-,-,q,-⟩<;>exact q
 by_cases r:(bA j (V.a_++[V.next])).1=0
 ·rw[Zq (by simpa using r)]
  exact⟨p,.inl rfl,λv=>Zz rfl v⟩
 ·rw[Zx r]
  obtain⟨i,n⟩:=p.delete (ay V.next);refine⟨i,u,λ_=>?_⟩;show aq ((bA j (V.a_++[V.next])).2.delete (ay V.next)).2.files _=none;rcases n with n|⟨n,w⟩
  ·rw[n,gi mt];simp
  ·rw[w];exact n
def Va(V:dv)(D:ak):Prop:=∀n,V.next<=n->n<1000000000000->aq D.files (ay n)=none
end
section
variable {D E:ak} {A:qe} {no:Int} {l x:List ah} {k j n s:Nat} {V:dv}
def bZ.read(n:bZ D)(P:aq D.files w=some W):D.read w=(W.bytes,0):=by
 unfold ak.read;rw[n.dead,P];rfl
def bZ.told(P:bZ D){n:List Int}(a:aq D.files bW=some (dQ (bN n)))(b:∀x∈n,aM x)(c:n.length<=64):told D=n:=by
 unfold Go.Proofs.YtjgjkeponbeekaaGreatDoor.told dz;rw[P.read a,Zq sM,show(dQ (bN n)).bytes=bN n from rfl,oU b c];rfl
def yF(d:bZ D):∀(A:qe) (n:List Int) (P:List ah) (V:dv),(∀x∈A,aq D.files (ay x.1)=some (dQ (az x.2)))->(∀a∈(A.map (·.2)).flatten,a.Ok/\a.aN.length<=64)->
  ∃b,cO (cW A++n) P V D=cO n (P++(A.map (·.2)).flatten) ⟨V.size,V.a_++cW A,b,V.next⟩ D
 |[],n,P,V,_,_=>⟨V.bytes,by simp[cW]⟩
 |y::A,n,P,V,e,f=>by
  have g:=d.read (e y (QV ..));have h:=qR (l:=y.2) λa c=>f a (by simp only[QY,List.flatten_cons];exact ZV _ c);obtain⟨b,i⟩:=yF d A n (P++y.2) ⟨V.size,V.a_++[y.1],((az y.2).length:Nat),V.next⟩ (λx j=>e x (QJ _ j)) λa c=>f a (by simp only[QY,List.flatten_cons];exact ZW _ c);refine⟨b,?_⟩;have k:cW (y::A)++n=y.1::(cW A++n):=rfl;rw[k]
  conv=>lhs;unfold cO
  have l:(dQ (az y.2)).bytes=az y.2:=rfl;rw[g,Zq sM,l];dsimp only;rw[h,Zq sM];dsimp only;rw[i];simp[cW,XQ]
def OR{size:Int}(d:bZ D)(r:Tidy D.files)(a:cM E A no l k)(m:∀x∈A,aq D.files (ay x.1)=some (dQ (az x.2)))(o:aq D.files bW=some (dQ (bN (cW A++[no]))))(g:aq D.files (ay no)=some ⟨(az l).take n,s,true⟩)(hs:s<=min n (az l).length)(M:(az (l.take k)).length<=s):
  ∃P,k<=P/\P<=l.length/\((az l).length<=n->P=l.length)/\(aR D size).no=0/\(aR D size).out=b_ A (l.take P)/\Hu (aR D size).V A no (l.take P)/\(aR D size).V.size=size/\(aR D size).V.next=ix D/\
   cM (aR D size).D A no (l.take P) k/\bZ (aR D size).D/\(s=min n (az l).length->cM (aR D size).D A no (l.take P) P)/\∀x,x≠ay no->aq (aR D size).D.files x=aq D.files x:=by
 have t:=a.XG;obtain⟨P,u,N,O,v⟩:=wA t n;have b3:=jU l P;have p:k<=P:=by
  refine Nat.le_of_not_lt λq=>?_;have Q:=v (by have:=a.kl;omega);have R:=Cm (l:=l) (i:=P+1) (j:=k) q;omega
 have S:(az l).length<=n->P=l.length:=λhn=>by
  refine Nat.le_antisymm u (Nat.le_of_not_lt λq=>?_);have Q:=v q;have R:=jU l (P+1);omega
 have T:∀x∈cW A++[no],aM x:=λx e=>by have:=a.Ad x e;unfold aM;omega
 have U:(cW A++[no]).length<=64:=by have:=a.many;simpa[cW]using this
 have w:=d.told o T U;obtain⟨y,V⟩:=yF d A [no] [] (dN D size) m λb f=>a.evs b (ZV _ f);have z:=d.read g;simp only at z;have b4:((az l).take n).length=min n (az l).length:=Qy;have B:no<ix D:=IT (by have:=a.tZ;omega) (by rw[g];rfl);have C:=ss D.list;have F:∀b∈l.take P,b.Ok/\b.aN.length<=64:=λb f=>t b (List.mem_of_mem_take f);have W:cM ⟨D.most,aI D.files (ay no) ⟨az l,(az l).length,true⟩,D.jv,D.left,D.dead⟩ A no l k:=by
  have X:=a.U_;have Y:=(fy (n:=no) (.inr (by have:=a.tZ;omega))).1;exact⟨r.aI _ _,λx e=>by show aq (aI _ _ _) _=_;rw[bB,Zq (by simpa using X x e)];exact m x e,⟨_,by show aq (aI _ _ _) _=_;rw[bB];simp,by exact jU l k,Q4 _⟩,a.kl,by show aq (aI _ _ _) _=_;rw[bB,Zq (by simpa using Y.symm)];exact o,a.Ad,a.y_,a.evs,a.many⟩
 have H:cO (told D) [] (dN D size) D=cO [no] ((A.map (·.2)).flatten) ⟨size,cW A,y,ix D⟩ D:=by
  rw[w,V];simp[dN]
 have I:cO [no] ((A.map (·.2)).flatten) ⟨size,cW A,y,ix D⟩ D=
   if(az (l.take P)).length<((az l).take n).length then⟨(D.oh (ay no) (az (l.take P)).length).1,b_ A (l.take P),⟨size,cW A++[no],((az (l.take P)).length:Nat),ix D⟩,(D.oh (ay no) (az (l.take P)).length).2⟩
   else⟨0,b_ A (l.take P),⟨size,cW A++[no],((az (l.take P)).length:Nat),ix D⟩,D⟩:=by
  unfold cO;rw[z,Zq sM];dsimp only;rw[N];dsimp only;split
  ·rfl
  ·unfold cO;rfl
 have J:∀(h:pk),h.no=0->h.V.a_=cW A++[no]->gj (told D).length h=h:=λh Z K=>by
  unfold gj;rw[Zq (by simpa using Z),Zq (by rw[K];simp),Zq (by rw[K,w];omega)]
 have a0:aR D size=cO (told D) [] (dN D size) D:=by
  unfold aR;rw[H,I];split
  ·exact J _ (d.oh g _).1 rfl
  ·exact J _ rfl rfl
 rw[a0,H,I];refine⟨P,p,u,S,?_⟩;split
 ·rename_i b1
  obtain⟨c1,c2,c3⟩:=d.oh g ((az (l.take P)).length:Nat);have a6:ic ((az (l.take P)).length:Nat) ((az l).take n).length=(az (l.take P)).length:=by unfold ic;omega
  have a7:(⟨(az l).take n,s,true⟩:bS).cut ((az (l.take P)).length:Nat)=⟨az (l.take P),(az (l.take P)).length,true⟩:=by
   unfold bS.cut;simp only[a6];rw[List.take_take,X2 O,EP]
  have L:(D.oh (ay no) ((az (l.take P)).length:Nat)).2.files=aI D.files (ay no) ⟨az (l.take P),(az (l.take P)).length,true⟩:=by
   rw[c2,a7];rfl
  have i:∀c,c<=P->cM (D.oh (ay no) ((az (l.take P)).length:Nat)).2 A no (l.take P) c:=λc j=>
   W.put (s:=(az (l.take P)).length) (by rw[L];show _=aI (aI _ _ _) _ _;rw[xH]) be (jU _ _) (Q4 _) F
  refine⟨c1,rfl,⟨rfl,rfl,B,C.2⟩,rfl,rfl,i k p,c3,λ_=>i P (Q4 _),λx e=>?_⟩;show aq (D.oh (ay no) ((az (l.take P)).length:Nat)).2.files x=_;rw[L,bB,Zq (by simpa using e)]
 ·rename_i b2
  have a8:(az (l.take P)).length=min n (az l).length:=oM
  have a9:(az l).take n=az (l.take P):=by
   rw[<-EP l P,a8,List.take_eq_take_iff];omega
  have i:∀c,c<=P->(az (l.take c)).length<=s->cM D A no (l.take P) c:=λc j b0=>
   ⟨r,m,⟨s,by rw[g,a9],by rw[List.take_take,X2 j];exact b0,oM⟩,by simp;omega,o,a.Ad,a.y_,λb f=>(Q6.1 f).elim (λh'=>a.evs b (ZV _ h')) (F b),a.many⟩
  exact⟨rfl,rfl,⟨rfl,rfl,B,C.2⟩,rfl,rfl,i k p M,d,λf=>i P (Q4 _) oM,λ_ _=>rfl⟩
def Jm(P:Nat)(n:Int):aR (gQ P) n=⟨(bz ⟨n,[],0,1⟩ (gQ P)).1,[],(bz ⟨n,[],0,1⟩ (gQ P)).2.1,(bz ⟨n,[],0,1⟩ (gQ P)).2.2⟩:=by
 have a:ix (gQ P)=1:=by simp[ix,tD,ak.list,gQ,tq]
 have b:told (gQ P)=[]:=by
  have:(gQ P).read bW=([],14):=by simp[ak.read,gQ,aq]
  unfold told dz;rw[this];rfl
 have c:(dN (gQ P) n)=⟨n,[],0,1⟩:=by unfold dN;rw[a]
 unfold aR;rw[b,c];unfold cO gj;rw[Zq sM,Zx rfl];unfold aK;rw[Zx rfl]
def RO(P:Nat)(n:Int):((aR (gQ P) n).no=3\/(aR (gQ P) n).no=12)\/
  ((aR (gQ P) n).no=0/\(aR (gQ P) n).out=[]/\cM (aR (gQ P) n).D [] 1 [] 0/\Hu (aR (gQ P) n).V [] 1 []/\(aR (gQ P) n).V.size=n/\(aR (gQ P) n).V.next=2/\bZ (aR (gQ P) n).D/\Va (aR (gQ P) n).V (aR (gQ P) n).D):=by
 have e:bZ (gQ P):=⟨rfl,rfl⟩
 have c:Tidy (gQ P).files:=by simp[Tidy,gQ]
 rw[Jm];obtain⟨f,g,s⟩:=GY (V:=⟨n,[],0,1⟩) e c ⟨sM,sM⟩ (by simp[gQ,aq]);rcases Cn (D:=gQ P) (V:=⟨n,[],0,1⟩) c sM with⟨b,h,i,j⟩|⟨b,h,i,j,a,k,l,m,o⟩
 ·exact .inl (g.resolve_left b)
 ·refine .inr ⟨b,rfl,⟨k,sM,⟨0,l,by simp[az],Qj _⟩,Q4 _,m,by simp[cW],by simp[cW],by simp[b_],sM⟩,⟨by rw[a];rfl,by rw[a];rfl,by rw[a];simp⟩,by rw[a],by rw[a];rfl,f,?_⟩
  show Va (bz ⟨n,[],0,1⟩ (gQ P)).2.1 (bz ⟨n,[],0,1⟩ (gQ P)).2.2;rw[a];intro p q t;simp only at q;have d:=fy (n:=p) (.inr oM);rw[o _ (λr=>by have:=sk (a:=1) oM r;omega) d.2 d.1];simp[gQ,aq]
end
section
variable {D E:ak} {A:qe} {no:Int} {l x:List ah} {k:Nat} {V:dv} {b:List UInt8} {size:Int}
def Bf:∀(b:List Int) {D:ak},Tidy D.files->Tidy (jJ b D).files/\∀P,(∀n∈b,P≠ay n)->aq (jJ b D).files P=aq D.files P
 |[],D,c=>⟨c,λ_ _=>rfl⟩
 |n::b,D,c=>by
  have d:Tidy (D.delete (ay n)).2.files/\∀P,P≠ay n->aq (D.delete (ay n)).2.files P=aq D.files P:=by
   rcases jD D (ay n)with e|e
   ·rw[e];exact⟨c,λ_ _=>rfl⟩
   ·rw[e];exact⟨c.bL _,λP a=>by rw[gi c,Zq (by simpa using a)]⟩
  unfold jJ;split
  ·exact⟨d.1,λP a=>d.2 P (a n (QV ..))⟩
  ·obtain⟨f,g⟩:=Bf b d.1
   exact⟨f,λP a=>(g P λh i=>a h (QJ _ i)).trans (d.2 P (a n (QV ..)))⟩
def Gj(s:Tidy D.files)(t:0<=no):((bC no b D).1≠0/\Tidy (bC no b D).2.files/\∀n,n≠ay no->n≠aO->aq (bC no b D).2.files n=aq D.files n)\/
  ((bC no b D).1=0/\no<1000000000000/\aq D.files (ay no)=none/\Tidy (bC no b D).2.files/\aq (bC no b D).2.files (ay no)=some (dQ b)/\
   aq (bC no b D).2.files bW=some (dQ (bN [no]))/\∀n,n≠ay no->n≠aO->n≠bW->aq (bC no b D).2.files n=aq D.files n):=by
 unfold bC;dsimp only;rw[show cF (ax no)=ay no from rfl];rcases lE D (ay no)with⟨k,l⟩|⟨k,l,B,u⟩
 ·rw[Zx k]
  exact .inl ⟨k,by show Tidy (D.create _).2.files;rw[l];exact s,λn _ _=>by show aq (D.create (ay no)).2.files n=_;rw[l]⟩
 have v:=(tX t).1 l;obtain⟨C,nt⟩:=fy (n:=no) (.inr ⟨t,v⟩);rw[Zq (show¬(D.create (ay no)).1≠0 by simpa using k)];have m:tY (ay no) D (D.create (ay no)).2:=(tY.refl s).put u;have w:aq (D.create (ay no)).2.files (ay no)=some ⟨[],0,false⟩:=by rw[u,bB];simp
 generalize(D.create (ay no)).2=f at m w;have d:∀{F:ak},Tidy F.files->(∀n,n≠ay no->n≠aO->aq F.files n=aq D.files n)->Tidy (F.delete (ay no)).2.files/\∀n,n≠ay no->n≠aO->aq (F.delete (ay no)).2.files n=aq D.files n:=by
  intro F q x;rcases jD F (ay no)with e|e
  ·rw[e];exact⟨q,x⟩
  ·rw[e];exact⟨q.bL _,λn a h=>by rw[gi q,Zq (by simpa using a)];exact x n a h⟩
 rcases oT f (ay no) b with⟨c,P⟩|⟨c,E,i,P⟩
 ·rw[Zx c]
  have:=d (F:=(f.append (ay no) b).2) (by rw[P];exact m.1) λn a _=>by rw[P];exact m.2 n a
  exact .inl ⟨c,this⟩
 rw[w]at i;cases i
 rw[Zq (show¬(f.append (ay no) b).1≠0 by simpa using c)];have o:tY (ay no) D (f.append (ay no) b).2:=m.put P;have y:aq (f.append (ay no) b).2.files (ay no)=some ⟨b,0,false⟩:=by rw[P,bB];simp
 generalize(f.append (ay no) b).2=g at o y;rcases nU g (ay no)with⟨c,P⟩|⟨c,E,i,P⟩
 ·rw[Zx c]
  have:=d (F:=(g.sync (ay no)).2) (by rw[P];exact o.1) λn a _=>by rw[P];exact o.2 n a
  exact .inl ⟨c,this⟩
 rw[y]at i;cases i
 have p:tY (ay no) D (g.sync (ay no)).2:=o.put P;have z:aq (g.sync (ay no)).2.files (ay no)=some (dQ b):=by rw[P,bB];simp
 rw[Zq (show¬(g.sync (ay no)).1≠0 by simpa using c)];generalize(g.sync (ay no)).2=H at p z;rcases KW p.1 [no]with⟨j,r⟩|⟨j,r,I,J,A⟩
 ·rw[Zx j]
  have:=d (F:=(bA H [no]).2) r.1 λn a h=>(r.2 n h).trans (p.2 n a);exact .inl ⟨j,this⟩
 ·rw[Zq (by simpa using j)]
  exact .inr ⟨j,v,B,I,(A _ nt C).trans z,J,λn a h K=>(A n h K).trans (p.2 n a)⟩
def cM.lt_next(b:cM D A no l k)(c:Hu V A no l):∀n∈cW A++[no],n<V.next:=λn d=>by
 have e:=c.next;rcases Q6.1 d with P|P
 ·have a:=b.y_
  rw[List.pairwise_append]at a;have:=a.2.2 n P no (List.mem_singleton.2 rfl);omega
 ·have:=List.mem_singleton.1 P;omega
def cM.ne_next(P:cM D A no l k)(b:Hu V A no l):∀n∈cW A++[no],ay n≠ay V.next:=λn a c=>by
 have d:=P.Ad n a;have e:=P.lt_next b n a;have:=sk (a:=n) ⟨oM,d.2⟩ c.symm;omega
def Tw(a:0<=no):bW≠ay no:=λn=>by
 by_cases b:no<1000000000000
 ·exact(fy (n:=no) (.inr oM)).1 n.symm
 ·have P:ay no=cF []:=by unfold ay ax;rw[Zx (.inr oM)]
  rw[P]at n
  revert n;decide+kernel
def Rf(P:Tidy D.files)(a:1<=no/\no<1000000000000)(b:aq D.files (ay no)=some (dQ (az x)))(c:aq D.files bW=some (dQ (bN [no])))(d:∀n∈x,n.Ok/\n.aN.length<=64):cM D [] no x x.length:=
 ⟨P,λf e=>(by cases e),⟨_,b,by rw[List.take_length];exact Q4 _,Q4 _⟩,Q4 _,c,by simpa[cW]using a,by simp[cW],by simpa[b_]using d,sM⟩
def cM.bC(n:cM D A no l k)(d:Hu V A no l)(g:∀P∈x,P.Ok/\P.aN.length<=64):
  ((bC V.next (az x) D).1≠0/\cM (bC V.next (az x) D).2 A no l k)\/((bC V.next (az x) D).1=0/\V.next<1000000000000/\cM (bC V.next (az x) D).2 [] V.next x x.length):=by
 have m:=n.tZ;have o:=d.next;rcases Gj (b:=az x) n.tidy (show 0<=V.next by omega)with⟨a,b,c⟩|⟨a,b,c,h,i,j,p⟩
 ·exact .inl ⟨a,n.same b (λe f=>c _ (n.ne_next d e f) (fy (.inr (by have:=n.Ad e f;omega))).2) (c _ (Tw oM) λP=>MT P.symm)⟩
 ·exact .inr ⟨a,b,Rf h oM i j g⟩
def t_(n:D.dead=false)(P:aq D.files w=some W):D.read w=(W.bytes,0):=by
 unfold ak.read;rw[n,P];rfl
def ve(d:D.dead=false):∀(A:qe) (n:List Int) (P:List ah) (V:dv),(∀x∈A,aq D.files (ay x.1)=some (dQ (az x.2)))->(∀a∈(A.map (·.2)).flatten,a.Ok/\a.aN.length<=64)->
  ∃b,cO (cW A++n) P V D=cO n (P++(A.map (·.2)).flatten) ⟨V.size,V.a_++cW A,b,V.next⟩ D
 |[],n,P,V,_,_=>⟨V.bytes,by simp[cW]⟩
 |y::A,n,P,V,e,f=>by
  have g:=t_ d (e y (QV ..));have h:=qR (l:=y.2) λa c=>f a (by simp only[QY,List.flatten_cons];exact ZV _ c);obtain⟨b,i⟩:=ve d A n (P++y.2) ⟨V.size,V.a_++[y.1],((az y.2).length:Nat),V.next⟩ (λx j=>e x (QJ _ j)) λa c=>f a (by simp only[QY,List.flatten_cons];exact ZW _ c);refine⟨b,?_⟩;have k:cW (y::A)++n=y.1::(cW A++n):=rfl;rw[k]
  conv=>lhs;unfold cO
  have l:(dQ (az y.2)).bytes=az y.2:=rfl;rw[g,Zq sM,l];dsimp only;rw[h,Zq sM];dsimp only;rw[i];simp[cW,XQ]
def KX(n:cM D A no l k)(P:D.dead=false):aR D size=⟨0,b_ A l,⟨size,cW A++[no],((az l).length:Nat),ix D⟩,D⟩:=by
 obtain⟨o,c,p,q⟩:=n.last;have d:∀x∈cW A++[no],aM x:=λx e=>by have:=n.Ad x e;unfold aM;omega
 have f:(cW A++[no]).length<=64:=by have:=n.many;simpa[cW]using this
 have a:told D=cW A++[no]:=by
  unfold told dz;rw[t_ P n.Wm,Zq sM,show(dQ (bN (cW A++[no]))).bytes=bN (cW A++[no])from rfl,oU d f];rfl
 obtain⟨b,g⟩:=ve P A [no] [] (dN D size) n.full λh i=>n.evs h (ZV _ i);have j:=t_ P c;have m:cO (told D) [] (dN D size) D=⟨0,b_ A l,⟨size,cW A++[no],((az l).length:Nat),ix D⟩,D⟩:=by
  rw[a,g];unfold cO;rw[j,Zq sM];dsimp only;rw[qR n.XG,Zq sM];unfold cO;simp[dN,b_]
 unfold aR;rw[m];unfold gj;rw[Zq sM,Zq sM,Zq (by rw[a];simp)]
def Ol(n:D.dead=true):(aR D size).no=15/\(aR D size).D.files=D.files:=by
 have P:told D=[]:=by
  have:D.read bW=([],15):=by unfold ak.read;rw[n];rfl
  unfold told dz;rw[this];rfl
 have a:∀V:dv,V.a_=[]->aK V D=(15,V,D.gone):=λV b=>by
  unfold aK;rw[Zx b];have c:D.create (cF (ax V.next))=(15,D.gone):=by
   unfold ak.create ak.op ak.dies;rw[n];rfl
  unfold bz;dsimp only;rw[c,Zx sM]
 unfold aR;rw[P];unfold cO gj;rw[Zq sM,Zx (show(dN D size).a_=[]from rfl),show aK _ _=_ from a (dN D size) rfl];exact⟨rfl,rfl⟩
end
section
variable {D E:ak} {A:qe} {no:Int} {l x:List ah} {k:Nat} {V:dv} {b:List UInt8} {size:Int} {L:List Int}
structure Ke (D:ak) (no:Int) (x:List ah):Prop where
 held:cM D [] no x x.length
 alive:bZ D
 none:∀y,y≠ay no->y≠bW->aq D.files y=none
def Rg:(gZ bW).2=false:=by decide+kernel
end
section
variable {D E:ak} {A:qe} {no:Int} {l:List ah} {k:Nat}
def AQ:∀(n:List ByteArray) {D:ak},bZ D->bZ (Kw D n)
 |[],D,P=>P
 |s::n,D,P=>AQ n (P.delete s).1
def AR:∀(a:List ByteArray) {D:ak},bZ D->Tidy D.files->∀n,aq (Kw D a).files n=if n∈a then none else aq D.files n
 |[],D,_,_,n=>by simp[Kw]
 |P::a,D,d,b,n=>by
  show aq (Kw (D.delete P).2 a).files n=_;obtain⟨f,g⟩:=d.delete P;have h:Tidy (D.delete P).2.files:=by
   rcases jD D P with e|e
   ·rw[e];exact b
   ·rw[e];exact b.bL _
  have e:aq (D.delete P).2.files n=if n=P then none else aq D.files n:=by
   rcases g with e|⟨i,e⟩
   ·rw[e,gi b];simp
   ·rw[e];split
    ·rename_i j;rw[j,i]
    ·rfl
  rw[AR a f h n,e]
  by_cases c:n∈a
  ·simp[c]
  ·by_cases k:n=P<;>simp[c,k]
def Kx:bW≠aO:=by decide+kernel
end
end Go.Proofs.YtjgjkeponbeekaaGreatDoor
namespace Go.Proofs
open Go.RowKit Go.Maps Go.Sort Go.Shelf
def Tryz.Wf(b:Nat):AnyZI.SortsIn Tryz.prog Tryz.yQ Fence.wide b:=
 ⟨λaG P n c a d e f=>callsIn_wide.2 (AnyM.slices_Sort_int Tryz.wD aG P n c a d e f),
  λg n a=>callsIn_wide.2 (AnyM.slices_Sort_int_none Tryz.wD g n a)⟩
end Go.Proofs
namespace Go.Proofs.YtjgjkeponbeekaaGreatDoor
section
open Go.aw
open Go.RowKit Go.Maps Go.Sort Go.Shelf
def wD(n:List Int):List Int:=n.mergeSort (λP a=>decide (P<=a))
variable{g2:List (Int×Value)}{a c:Nat}{E:Nat×Nat}{g:TypeId}{b:World}
def Ab(w:bQ b a (Value.int .i64) g2)(H:∀f∈g2,aM f.1)(x:g2.length*8<=aT)(y:b.heap[c]? =some (.cells #[.map (some a)] g E)):
  PP 197 #[.func (.func 250) #[] #[ZL c]] b
   (Ok λp z=>Hp b 3 (wD (g2.map (·.1))) p z):=by
 unfold aT at x;obtain⟨d,h,I,l,J,K⟩:=w.at';have L:Tryz.prog.underlying 3=some (.int .i64):=Tryz.underlying3;have M:d.size=g2.length:=by have:=Zj List.length l;simpa using this
 have N:∀n:Int,aM n->(Lit.int .i64 n).wf=true:=λn i=>by unfold aM at i;simp[Lit.wf,IntKind.min,IntKind.max,IntKind.signed,IntKind.bits];omega
 have A:∀P∈d.toList,∃n,P.key=Value.int .i64 n/\aM n:=λP e=>by
  have O:(P.key,P.val)∈g2.map (λf=>(Value.int .i64 f.1,f.2)):=by rw[<-l];exact Xk.2 ⟨P,e,rfl⟩
  obtain⟨f,Q,R⟩:=Xk.1 O;exact⟨f.1,(Prod.mk.inj R).1.symm,H f Q⟩
 have B:∀P∈d.toList,∀n,P.key=Value.int .i64 n->aM n->WideElems.rd ZP 3 (λ_=>some ((.nil:DataW Unit),[])) P=some (.int .i64 n,.nil):=λP _ n i j=>by
  simp[WideElems.rd,i,Maps.keyOf_int_mk L (N n j)]
 have S:WideElems.Fit ZP 3 (λ_=>some ((.nil:DataW Unit),[])) d h:=by
  refine⟨by unfold maxLen;omega,⟨J,K,?_⟩,λP e=>?_⟩
  ·have:d.toList.map (·.key)=(g2.map (·.1)).map (Value.int .i64):=by
    have:=Zj (List.map (λq:Value×Value=>q.1)) l;simpa[Function.comp_def]using this
   rw[this];exact List.pairwise_map.2 (List.Pairwise.imp (λT=>by simpa using T) w.tidy)
  ·obtain⟨n,i,j⟩:=A P e
   exact⟨_,B P e n i j⟩
 have U:b.ownsMap ZP 3 (λ_=>some ((.nil:DataW Unit),[])) a d.size (.map ((d.toList.map (WideElems.rg ZP 3 (λ_=>some ((.nil:DataW Unit),[])))).foldr DataW.insert [])):=
  ⟨d,h,I,S,Q4 _,rfl⟩
 have C:Maps.size (.map ((d.toList.map (WideElems.rg ZP 3 (λ_=>some ((.nil:DataW Unit),[])))).foldr DataW.insert []))=g2.length:=by
  show(List.foldr DataW.insert [] _).length=_;rw[(WideShapes.sorted_perm _).length_eq];simp[M]
 have V:(intKeys (.map ((d.toList.map (WideElems.rg ZP 3 (λ_=>some ((.nil:DataW Unit),[])))).foldr DataW.insert []))).Perm (g2.map (·.1)):=by
  refine(List.Perm.map (λf:Lit×DataW Unit=>Go.intOf f.1) (WideShapes.sorted_perm _)).trans ?_;have:(d.toList.map (WideElems.rg ZP 3 (λ_=>some ((.nil:DataW Unit),[])))).map (λf=>Go.intOf f.1)=g2.map (·.1):=by
   have W:d.toList.map (λP=>match P.key with| .int _ n=>n|_=>0)=g2.map (·.1):=by
    have:=Zj (List.map (λq:Value×Value=>match q.1 with| .int _ n=>n|_=>0)) l;simpa[Function.comp_def]using this
   rw[<-W,List.map_map];refine List.map_congr_left λP e=>?_;obtain⟨n,i,j⟩:=A P e;simp[WideElems.rg,B P e n i j,i,Go.intOf]
  rw[this]
 have X:SeqGives Fence.wide 1 ZP 250 #[ZL c] encZ (λk=>k.Perm (intKeys _)) (Maps.size _) b:=
  AnyZI.keys_gives (ρ:=Tryz.Fw) {Tryz.Xp with} Fence.wide _ trivial rfl oM c a d.size _ b (aA y) (ae y rfl) U
 have Y:=AnyZI.sorted_in Tryz.Ux Fence.wide 4 trivial trivial trivial trivial rfl oM (Tryz.Wf _) (enters_of Tryz.func249 kR rfl) 250 #[ZL c] trivial
  (enters_of Tryz.func250 kR rfl) _ _ (by rw[C];unfold maxLen;omega) (by rw[C];exact x) b X
 refine((callsIn_wide (n:=4)).1 Y).mono ?_;rintro P z ⟨p,k,rfl,Z,m,a5,r⟩;have F:k.mergeSort (λn a0=>decide (n<=a0))=wD (g2.map (·.1)):=mergeSort_of_perm_i (Z.trans V);have a6:k.length=(wD (g2.map (·.1))).length:=by rw[<-F];simp
 rw[F]at m;have hv:∃s t,p= .slice s k.length t:=by
  rcases m.2 with⟨rfl,h0⟩|⟨g',u,v,rfl,_⟩
  ·exact⟨none,0,by rw[h0]⟩
  ·exact⟨_,_,rfl⟩
 obtain⟨s,t,rfl⟩:=hv;refine Ok.mk ⟨s,_,t,rfl,⟨ownsRow_base_a m (Qj _)⟩,aj.HF r,λa1 o=>?_⟩;rcases m.2 with⟨e,_⟩|⟨g',u,v,e,a7,_⟩
 ·simp only[XX]at e
  rw[e.1]at o;cases o
 ·simp only[XX]at e
  rw[e.1]at o;simp only[aG,Q1]at o;omega
end
section
open Go.aw
structure ks where
 de:Int
 asked:List (Int×Int)
 heard:List (Int×List Int)
 deriving DecidableEq
def YR(n:Value)(P:Int):Prop:=n= ZH P
def Pz(d:World)(e:ZN)(f:Value)(a:List Int):Prop:=
 ∃n P b,f= .slice n P b/\Own d 3 1 n P b (ints a)/\P*8<=aT/\(∀g∈a,aM g)/\∀c,aG n=some c->e c
def Pz.keep{S b F':ZN}{a e:World}{f:Value}{g:List Int}(c:Pz a b f g)(l:aj S a e)(m:∀n,b n->n<a.heap.size->(∃h,a.heap[n]? =some h/\∀i j,h≠.map i j)->¬S n)(o:∀n,b n->F' n):Pz e F' f g:=by
 obtain⟨p,q,r,rfl,d,P,s,k⟩:=c;refine⟨p,q,r,rfl,d.keep l (dw.2 λn P=>?_),P,s,λn P=>o n (k n P)⟩;refine m n (k n P) (d.lt P) ?_;rcases d.cases with⟨rfl,_⟩|⟨v,t,rfl,u,_⟩
 ·cases P
 ·simp only[aG,Q1]at P
  subst P;exact⟨_,u,λi j c=>by cases c⟩
structure et (w:World) (p:Nat) (F:ZN) (T:ks):Prop where
 body:∃ra rh la lh,w.heap[p]? =some (.cells #[ZH T.de,.map (some ra),.map (some rh)] 151 (0,0))/\bQ w ra (Value.int .i64) la/\bQ w rh (Value.int .i64) lh/\
  fI YR la T.asked/\fI (Pz w F) lh T.heard/\F ra/\F rh/\ra≠rh
 self:F p
 aE:∀b,F b->b<w.heap.size
 JT:Tidy T.asked
 tr:∀q∈T.asked,aM q.1
variable{Y m:Array Value}{K:Bool}{A:ZT}{e q:Int}{h2:List (Int×List Int)}{g2:List (Int×Value)}{b3 s:List Int}{a6 h3:List PanicEntry->ZU}{H:List ah}{a5:List bY}{F a c i r:Nat}{f:ZN}{d x:WP}{h:Program}{j:Type}{v:Value}{o t:ZR}{b k:World}{Q:aS}{N l:ah}{B:au}{b2:dv}{b6:ks}{c6:lb}
def et.keep{S e:ZN}(n:et b a e b6)(c:aj S b k)(d:∀P,e P->¬S P):et k a e b6:=by
 obtain⟨i,j,l,m,o,p,q,r,s,g,h,t⟩:=n.body;exact⟨⟨i,j,l,m,c.get o (d _ n.self),p.keep c (d _ g),q.keep c (d _ h),r,s.mono λv w u=>u.keep c (λP f _ _=>d P f) (λ_ n=>n),g,h,t⟩,
  n.self,λP f=>Qk (n.aE P f) c.size,n.JT,n.tr⟩
def et.af(n:et b a f b6)(P:ai b k):et k a f b6:=n.keep P λ_ _ n=>n
def kI:ji ZP 3 (Value.int .i64):=Wu Tryz.underlying3
def mA:mQ ZP 148 3 3 (ZH 0):=⟨kR,kR⟩
def mH:mQ ZP 149 3 42 (.slice none 0 0):=⟨kR,kR⟩
def JB:PP 45 #[ZH e] b
  (Ok λh c=>∃d f,h= ZL d/\et c d f ⟨e,[],[]⟩/\ai b c/\∀n,f n->b.heap.size<=n):=by
 refine Dq (PA.mk λi j q k=>PA.mk λl g r m=>PA.mk λo P s p=>Ok.mk ⟨l.heap.size,λn=>b.heap.size<=n/\n<o.heap.size,rfl,
  ⟨⟨b.heap.size,i.heap.size,[],[],p,bQ.new (P.get (g.get k id) id),bQ.new (P.get m id),trivial,trivial,oM,oM,oM⟩,oM,λn a=>a.2,by simp[Tidy],sM⟩,
  (j.af g).af P,λn a=>a.1⟩)
def JH(n:et b a f b6)(t:aM e):
  PP 82 #[ZL a,ZH e,ZH q] b
   (Ok λo i=>o= .tuple #[]/\et i a f {b6 with asked:=aI b6.asked e q}/\aj f b i):=by
 obtain⟨P,u,K,v,j,p,w,x,y,r,z,s⟩:=n.body;have A:∃c d,b.heap[P]? =some (.map c d):=by obtain⟨c,d,n,_⟩:=p.at';exact⟨c,d,n⟩
 obtain⟨c,d,k⟩:=A;have B:a≠P:=by rintro rfl;rw[j]at k;cases k
 refine ql ⟨a,0,rfl,some P,ae j rfl,dy mA kI p λi C g E=>Ok.mk ⟨rfl,⟨⟨P,u,_,v,g.get j B,C,w.keep g (Ne.symm s),fI.aI (R:=YR) rfl x,?_,r,z,s⟩,n.self,?_,n.JT.aI _ _,?_⟩,g.mono ?_⟩⟩
 ·refine y.mono λo L F=>F.keep g (λl _ _ h=>?_) (λ_ n=>n)
  rintro rfl;obtain⟨M,h,H⟩:=h;rw[k]at h;cases h;exact H _ _ rfl
 ·intro l I;rw[E];exact n.aE l I
 ·intro J m
  rcases fF m with rfl|m
  ·exact t
  ·exact n.tr J m
 ·rintro l _ rfl;exact r
def ks.all(P:ks)(n:Int)(a:List Int):List Int:=kW ((aq P.heard n).getD []) a
def Hn(P n:List Int):Bool:=mU P n==0||mU P n==2
def ks.ends(a:ks)(n:Int)(b P:List Int):Bool:=(aq a.asked n).isSome&&Hn (a.all n b) P
def ks.Aa(P:ks)(n:Int)(b a:List Int):ks:=
 {P with heard:=aI P.heard n (P.all n b),asked:=if P.ends n b a then bL P.asked n else P.asked}
def CA(a:∀b∈s,aM b)(n:Int):aM (fV s n):=by
 unfold fV;split
 ·unfold aM;omega
 ·by_cases P:n.toNat<s.length
  ·have:=a s[n.toNat] (XY P)
   simp only[List.getD,Qq P,Option.getD_some];unfold aM at*;omega
  ·have:s[n.toNat]? =none:=by simp;omega
   simp only[List.getD,this,Option.getD_none];unfold aM;omega
def E_(a:∀n∈s,aM n)(b:∀n∈b3,aM n):∀n∈kW s b3,aM n:=by
 intro n c;obtain⟨P,_,rfl⟩:=Xk.1 c;have d:=CA a P;have e:=CA b P;unfold aM at*;omega
def Ho(n P:List Int):(kW n P).length=max n.length P.length:=tm _ _ _
def et.Ur(i:fI (Pz b f) g2 h2)(n:Int):
  ∃P a c,(aq g2 n).getD (.slice none 0 0)= .slice P a c/\Ints b P a ((aq h2 n).getD [])/\a*8<=aT/\∀g,aG P=some g->f g:=by
 rcases i.aq n with⟨d,e⟩|⟨m,o,d,e,P,a,c,rfl,j,h,k,l⟩
 ·rw[d,e];exact⟨none,0,0,rfl,Ints.nil b,by simp[aT],by simp[aG]⟩
 ·rw[d,e];exact⟨P,a,c,rfl,j.ints h k,h,l⟩
def Jw(n:et b a f b6)(L:Ints b d c s)(hy:Ints b x i b3)(W:b3≠[]->pO f x):
  PP 120 #[ZL a,ZH e,.slice d c r,.slice x i F] b
   (Ok λq p=>∃F',q= .bool (b6.ends e s b3)/\et p a F' (b6.Aa e s b3)/\cu f b F' p):=by
 obtain⟨o,u,E,lh,H,y,X,M,h5,Y,N,O⟩:=n.body;obtain⟨k,l,Q⟩:∃k l,b.heap[u]? =some (.map k l):=by obtain⟨k,l,n,_⟩:=X.at';exact⟨k,l,n⟩
 obtain⟨c9,d0,a6⟩:∃k l,b.heap[o]? =some (.map k l):=by obtain⟨k,l,n,_⟩:=y.at';exact⟨k,l,n⟩
 have b7:a≠u:=by rintro rfl;rw[H]at Q;cases Q
 have b8:a≠o:=by rintro rfl;rw[H]at a6;cases a6
 obtain⟨ha,hn,hc,hg,R,hB,hF⟩:=et.Ur h5 e;refine qm ⟨a,0,rfl,some u,ae H rfl,Al mH kI X ⟨ha,hn,hc,hg,PC.ok (Bc R L) ?_⟩⟩;rintro _ w1 ⟨v,z,S,rfl,Z,t,a7⟩;have b9:z=(b6.all e s).length:=by have:=Z.length;rw[jW,Nat.mul_one]at this;exact this.symm
 have a8:z*8<=aT:=by
  rw[b9];unfold ks.all;rw[Ho];have:=R.len;have:=R.fj;have:=L.len;have:=L.fj;unfold aT at*;omega
 have a9:∀c0∈b6.all e s,aM c0:=E_ R.Ad L.Ad;refine⟨v,z,S,rfl,a,0,rfl,some u,ae (t.get H id) rfl,dy mH kI (X.keep t id) λh b0 A c1=>?_⟩;have I:aG v≠some u:=λj=>by have:=a7 _ j;have:=aA Q;omega
 have b1:Own h 3 1 v z S (ints (b6.all e s)):=Z.keep A (dw.2 λx W=>by rintro rfl;exact I W);have c2:Ints h x i b3:=(hy.af t).HG A λc3 a0 hq=>by rintro rfl;exact W c3 a0 hq N
 refine PC.ok (NB (b1.ints a8 a9) c2) ?_;rintro _ _ ⟨rfl,rfl⟩;have T:h.heap[a]? =some (.cells #[ZH b6.de,.map (some o),.map (some u)] 151 (0,0)):=A.get (t.get H id) b7;have U:bQ h o (Value.int .i64) E:=(y.keep t id).keep A O;refine⟨_,rfl,?_⟩
 let F':ZN:=λP=>f P\/(b.heap.size<=P/\P<w1.heap.size)
 have a1:cu f b F' h:=⟨(t.keep (S:=f)).trans A (λ_ _ n=>n) (by rintro P _ rfl;exact N),λP m=>m.imp id (·.1)⟩
 have b2:fI (Pz h F') (aI lh e (.slice v z S)) (aI b6.heard e (b6.all e s)):=by
  refine fI.aI ⟨v,z,S,rfl,b1,a8,a9,λP m=>.inr ⟨a7 P m,Z.lt m⟩⟩ (h5.mono λq ys J=>?_);refine(J.keep t (F':=f) (λ_ _ _ _ n=>n) (λ_ n=>n)).keep A (λP _ _ g=>?_) (λ_ n=>.inl n);rintro rfl;obtain⟨c4,g,I⟩:=g;rw[t.get Q id]at g;cases g;exact I _ _ rfl
 have b4:∀P,F' P->P<h.heap.size:=λP m=>by
  rw[c1];rcases m with m|m
  ·exact Qk (n.aE P m) t.size
  ·exact m.2
 have c5:et h a F' {b6 with heard:=aI b6.heard e (b6.all e s)}:=
  ⟨⟨o,u,E,_,T,U,b0,M,b2,.inl Y,.inl N,O⟩,.inl n.self,b4,n.JT,n.tr⟩
 have a2:(aq E e).isSome=(aq b6.asked e).isSome:=by
  rcases M.aq e with⟨B,V⟩|⟨q,b5,B,V,_⟩<;>rw[B,V]<;>rfl
 have c6:∃P:Int,(aq E e).getD (ZH 0)= ZH P:=by
  rcases M.aq e with⟨B,V⟩|⟨q,b5,B,V,J⟩
  ·rw[B];exact⟨0,rfl⟩
  ·rw[B];exact⟨b5,J⟩
 obtain⟨k0,c7⟩:=c6;have no:b6.ends e s b3=false->Ok (λq p=>∃F',q= .bool (b6.ends e s b3)/\et p a F' (b6.Aa e s b3)/\cu f b F' p) (.returned (.bool false)) h:=λj=>
  Ok.mk ⟨F',by rw[j],by unfold ks.Aa;rw[j];exact c5,a1⟩
 have a3:∀w,b6.ends e s b3=true->bQ w o (Value.int .i64) (bL E e)->aj (·=o) h w->w.heap.size=h.heap.size->
   Ok (λq p=>∃F',q= .bool (b6.ends e s b3)/\et p a F' (b6.Aa e s b3)/\cu f b F' p) (.returned (.bool true)) w:=λw j hm C a5=>by
  obtain⟨d1,d2,c8⟩:∃k l,h.heap[o]? =some (.map k l):=by obtain⟨k,l,n,_⟩:=U.at';exact⟨k,l,n⟩
  refine Ok.mk ⟨F',by rw[j],?_,a1.keep.trans C (λ_ _ n=>n) (by rintro P _ rfl;exact Y),a1.new⟩;unfold ks.Aa;rw[j];refine⟨⟨o,u,_,_,C.get T b8,hm,b0.keep C (Ne.symm O),M.bL,?_,.inl Y,.inl N,O⟩,.inl n.self,λP m=>by rw[a5];exact b4 P m,n.JT.bL e,λa0 hq=>n.tr a0 (gN hq)⟩;refine b2.mono λq ys J=>J.keep C (λP _ _ g=>?_) (λ_ n=>n);rintro rfl;obtain⟨c4,g,I⟩:=g;rw[c8]at g;cases g;exact I _ _ rfl
 refine⟨λp=>h=p/\b6.ends e s b3=true,⟨a,0,rfl,some o,ae T rfl,jC mA kI U ?_⟩,?_⟩
 rotate_left
 ·rintro _ _ ⟨rfl,j⟩
  exact⟨a,0,rfl,some o,ae T rfl,Lz mA kI U λw hm C a5=>a3 w j hm C a5⟩
 rw[c7];refine⟨k0,_,rfl,al.mk (λg=>?_) (λg=>al.mk (λh0=>al.mk (λy=>?_) (λy=>?_)) (λh0=>?_))⟩
 ·refine no ?_
  have:(aq b6.asked e).isSome=false:=by rw[<-a2];simpa using g
  simp[ks.ends,this]
 ·refine no ?_
  have v:(mU (b6.all e s) b3==0)=false:=by simpa[bne]using h0
  have K:(mU (b6.all e s) b3==2)=false:=by simpa[bne]using y
  simp[ks.ends,Hn,v,K]
 ·have j:b6.ends e s b3=true:=by
   have a4:(aq b6.asked e).isSome=true:=by rw[<-a2];simpa using g
   have K:(mU (b6.all e s) b3==2)=true:=by simpa[bne]using y
   simp[ks.ends,Hn,a4,K]
  exact⟨rfl,j⟩
 ·have j:b6.ends e s b3=true:=by
   have a4:(aq b6.asked e).isSome=true:=by rw[<-a2];simpa using g
   have K:(mU (b6.all e s) b3==0)=true:=by simpa[bne]using h0
   simp[ks.ends,Hn,a4,K]
  exact⟨rfl,j⟩
def ks.open(n:ks):List Int:=wD (n.asked.map (·.1))
def Mt(i:et b a f b6)(c:b6.asked.length*8<=aT):
  PP 123 #[ZL a] b (Ok (Hp b 3 b6.open)):=by
 obtain⟨j,C,p,E,q,r,F,d,H,I,J,K⟩:=i.body;refine qV ⟨a,0,rfl,some j,ae q rfl,PC.ok (φ:=λs e=>s= .func (.func 250) #[] #[ZL b.heap.size]/\ai b e/\e.heap.size=b.heap.size+1/\
  e.heap[b.heap.size]? =some (.cells #[.map (some j)] 148 (0,0))) (jk (PA.mk λt n k g=>Ok.mk ⟨rfl,n,k,g⟩)) ?_⟩
 rintro _ t ⟨rfl,n,k,g⟩;have u:∀P∈p,aM P.1:=by
  intro P v;have:P.1∈b6.asked.map (·.1):=by rw[<-d.keys];exact Xk.2 ⟨P,v,rfl⟩
  obtain⟨w,h,x⟩:=Xk.1 this;rw[<-x];exact i.tr w h
 refine⟨_,rfl,PC.ok (Ab (r.af n) u (by rw[d.length];exact c) g) ?_⟩;rintro _ L ⟨l,m,o,rfl,y,z,A⟩;refine⟨l,m,o,rfl,Ok.mk ⟨l,m,o,rfl,?_,n.af z,λB c=>by have:=A B c;omega⟩⟩;unfold ks.open;rw[<-d.keys];exact y
def Jz(c:et b a f b6):
  PP 85 #[ZL a] b (Ok λt k=>t= .tuple #[]/\et k a f ⟨b6.de,[],[]⟩/\aj f b k):=by
 obtain⟨e,g,C,E,d,l,m,F,H,o,p,i⟩:=c.body;obtain⟨n,P,q⟩:∃n P,b.heap[g]? =some (.map n P):=by obtain⟨n,P,c,_⟩:=m.at';exact⟨n,P,c⟩
 obtain⟨I,J,r⟩:∃n P,b.heap[e]? =some (.map n P):=by obtain⟨n,P,c,_⟩:=l.at';exact⟨n,P,c⟩
 have u:a≠g:=by rintro rfl;rw[d]at q;cases q
 have s:a≠e:=by rintro rfl;rw[d]at r;cases r
 refine qo ⟨a,0,rfl,some e,ae d rfl,Jn mA l λK v h w=>⟨a,0,rfl,some g,ae (h.get d s) rfl,Jn mH (m.keep h (Ne.symm i)) λL x j y=>Ok.mk ⟨rfl,
  ⟨⟨e,g,[],[],j.get (h.get d s) u,v.keep j i,x,trivial,trivial,o,p,i⟩,c.self,λz A=>by rw[y,w];exact c.aE z A,by simp[Tidy],sM⟩,?_⟩⟩⟩
 exact h.trans j (by rintro B _ rfl;exact o) (by rintro B _ rfl;exact p)
def gy(b P:Int)(a:List Int×List (Int×Int))(n:Int):List Int×List (Int×Int):=
 if ZG .i64 (P-(aq a.2 n).getD 0)>=b then(a.1++[n],aI a.2 n P)else a
def ks.jz(n:ks)(P:Int)(a:Nat):List Int×List (Int×Int):=(n.open.take a).foldl (gy n.de P) ([],n.asked)
def ks.due(P:ks)(n:Int):List Int:=(P.jz n P.open.length).1
def ks.Sn(n:ks)(P:Int):ks:={n with asked:=(n.jz P n.open.length).2}
def ks.Mu(P:ks)(n:Int)(b:P.open[a]? =some e):P.jz n (a+1)=gy P.de n (P.jz n a) e:=by
 unfold ks.jz;rw[Qw,b];simp
def Pt(g:et b a f b6)(P:b6.asked.length*8<=aT):
  PP 77 #[ZL a,ZH e] b
   (Ok λJ L=>∃M a4 a5,J= .slice M a4 a5/\Own L 3 1 M a4 a5 (ints (b6.due e))/\et L a f (b6.Sn e)/\aj f b L/\∀n,aG M=some n->b.heap.size<=n):=by
 refine sL (PC.ok (Mt g P) ?_);rintro _ N ⟨A,k,lc,rfl,l,s,hn⟩;have b2:∀d∈b6.open,aM d:=by
  intro d B;have:d∈b6.asked.map (·.1):=(List.mergeSort_perm _ _).mem_iff.1 B;obtain⟨t,u,rfl⟩:=Xk.1 this;exact g.tr t u
 have O:k=b6.open.length:=by have:=l.length;rw[jW,Nat.mul_one]at this;exact this.symm
 have b3:b6.open.length=b6.asked.length:=by simp[ks.open,wD]
 have b4:k*8<=aT:=by rw[O,b3];exact P
 have hL:Ints N A k b6.open:=l.ints b4 b2;have b5:pO f A:=dw.2 λn P Q=>by have:=hn n P;have:=g.aE n Q;omega
 unfold aT at P;have d2:pO f none:=pO.none;refine⟨A,k,lc,rfl,λa6 v w R i m=>∃c:Nat,i=c/\c<=k/\a6=k-c/\Own m 3 1 v w R (ints (b6.jz e c).1)/\w<=c/\et m a f {b6 with asked:=(b6.jz e c).2}/\aj f b m/\Ints m A k b6.open/\N.heap.size<=m.heap.size/\
   (∀n,aG v=some n->N.heap.size<=n),⟨_,0,rfl,Qj _,rfl,Own.nil _ _ _,Qj _,g.af s,s.keep,hL,Q4 _,by simp[aG]⟩,?_⟩
 rintro a6 v w R i _ m ⟨c,rfl,d3,rfl,S,d4,C,T,U,b7,p⟩;refine al.mk (λx=>?_) (λx=>?_)
 ·have x:=XV x
  obtain⟨n,V,d,rfl,d5,B,b8,hc⟩:=U.at (i:=(c:Int)) oM oM;rw[Qx]at B;have a7:=b6.Mu e B;obtain⟨ra,rh,Yd,lh,t1,t2,t3,t4,t5,t6,t7,t8⟩:=C.body;refine⟨n,V,rfl,oM,oM,d,hc,a,0,rfl,some ra,ae t1 rfl,?_⟩;have b9:(aq Yd d).getD (ZH 0)= ZH ((aq (b6.jz e c).2 d).getD 0):=by
   rcases t4.aq d with⟨W,X⟩|⟨J,d6,W,X,Y⟩
   ·rw[W,X];rfl
   ·rw[W,X];exact Y
  refine⟨(aq (b6.jz e c).2 d).getD 0,λc0=>?_,a,0,rfl,b6.de,ae t1 rfl,λw3 hd=>?_⟩
  ·have:=eI mA kI (t2.keep (aj.drewN (S:=λ_=>False) m c0) id) d false
   simpa[b9]using this
  have h:ai m w3:=hd.keep;refine al.mk (λo=>?_) (λo=>?_)
  ·have o:=XV o
   refine PA.mk λw4 q s4 g4=>?_;refine MG Ve ((S.af h).af q) g4 (by unfold aT at*;omega) λa' c' w5 a8 E K=>?_;refine⟨a',w+1,c',rfl,a,0,rfl,?_⟩;have c1:∀n,f n->¬(some n=aG v):=λn Q Z=>by have:=p n Z.symm;have:=g.aE n Q;have:=s.size;omega
   have y:et w5 a f {b6 with asked:=(b6.jz e c).2}:=((C.af h).af q).keep E c1;obtain⟨j,a0,a9,a1,a2,b0,c2,c3,c4,a3,c5,b1⟩:=y.body;refine⟨some j,ae a2 rfl,dy mA kI b0 λw6 c6 r c7=>?_⟩;obtain⟨F,H,I⟩:∃F H,w5.heap[j]? =some (.map F H):=by obtain⟨F,H,g,_⟩:=b0.at';exact⟨F,H,g⟩
   have c8:a≠j:=by rintro rfl;rw[a2]at I;cases I
   have c9:et w6 a f {b6 with asked:=aI (b6.jz e c).2 d e}:=by
    refine⟨⟨j,a0,_,a1,r.get a2 c8,c6,c2.keep r (Ne.symm b1),fI.aI (R:=YR) rfl c3,?_,a3,c5,b1⟩,y.self,λn P=>by rw[c7];exact y.aE n P,y.JT.aI _ _,?_⟩
    ·refine c4.mono λJ ys Y=>Y.keep r (λt _ _ l=>?_) (λ_ g=>g)
     rintro rfl;obtain⟨d7,l,d0⟩:=l;rw[I]at l;cases l;exact d0 _ _ rfl
    ·intro t u
     rcases fF u with rfl|u
     ·exact b8
     ·exact y.tr t u
   have z:b6.jz e (c+1)=((b6.jz e c).1++[d],aI (b6.jz e c).2 d e):=by rw[a7];unfold gy;rw[Zx o]
   have d1:∀n,aG a'=some n->n≠j:=λn P=>by
    rintro rfl;exact a8.Vi I P
   refine⟨_,?_,c+1,?_,oM,rfl,?_,oM,by rw[z];exact c9,?_,?_,?_,?_⟩
   ·omega
   ·rw[wrap_i64 bc];simp
   ·rw[z];exact a8.keep r (dw.2 d1)
   ·refine(((T.af h).af q).new E ?_).trans r (λ_ _ g=>g) (by rintro t _ rfl;exact a3)
    intro n P;right;have:=p n P.symm;have:=s.size;omega
   ·refine(((U.af h).af q).keep E (dw.2 λn P Z=>?_)).keep r (dw.2 λn P=>?_)
    ·have:=p n Z.symm;have:=l.lt P;omega
    ·rintro rfl;exact dw.1 b5 n P a3
   ·have:=h.size;have:=q.size;have:=E.size;omega
   ·intro n P
    rcases K with K|K
    ·exact p n (K▸P)
    ·rw[K]at P;cases P;have:=h.size;have:=q.size;omega
  ·have o:=Xy o
   have z:b6.jz e (c+1)=b6.jz e c:=by rw[a7];unfold gy;rw[Zq o]
   refine⟨_,?_,c+1,?_,oM,rfl,by rw[z];exact S.af h,oM,by rw[z];exact C.af h,T.af h,U.af h,Xx b7 h.size,p⟩
   ·omega
   ·rw[wrap_i64 bc];simp
 ·have x:=Xy x
  obtain rfl:c=k:=oM
  refine Ok.mk ⟨v,w,R,rfl,?_,?_,T,λn P=>Xx s.size (p n P)⟩
  ·unfold ks.due;rw[<-O];exact S
  ·unfold ks.Sn;rw[<-O];exact C
structure bR where
 aD:Int
 uG:Int
 bh:Int
 chunk:Int
 buffer:Int
 de:Int
 every:Int
 start:Int
 decl:aS
structure bk where
 S:au
 D:ak
 log:Option dv
 waits:List ah
 gE:ks
def fH(n:bR)(P:Int):Bool:=
 within n.aD 1 64&&within P 0 (n.aD-1)&&within n.uG 64 262144&&decide (n.bh>=1)&&decide (n.every>=1)&&within n.chunk 1 32&&within n.buffer 1 256&&within n.de 1 1048576&&decide (n.start>=0)
section
variable (c:bR) (self:Int)
def fC(P:bk):Int×bk:=
 let n:=aR P.D c.bh
 if n.no≠0 then(n.no,{P with D:=n.D,log:=none,S:=⟨c.aD.toNat,[]⟩})
 else(0,{P with D:=n.D,log:=some n.V,S:=(⟨c.aD.toNat,[]⟩:au).eB n.out})
def BX:Int×bk:=fC c ⟨⟨c.aD.toNat,[]⟩,gQ c.uG.toNat,none,[],⟨c.de,[],[]⟩⟩
def eZ(n:au)(P:List ah):au:=(⟨c.aD.toNat,[]⟩:au).eB (n.l++P)
def dt(P:bk)(b:List ah):Int×bk:=match P.log with
 |none=>(15,P)
 |some d=>
  let n:=aF d P.D b
  if n.1≠0 then(n.1,{P with log:=some n.2.1,D:=n.2.2})else
  let a:=n.2.2.sync n.2.1.last
  if a.1≠0 then(a.1,{P with log:=some n.2.1,D:=a.2})else
  (0,{P with log:=some n.2.1,D:=a.2,S:=eZ c P.S b})
def eM(n:bk)(b:lb):Int×(Int×Int)×bk:=match n.log with
 |none=>(15,(0,0),n)
 |some _=>
  let P:=eW c.decl n.S (bO c.decl n.S.l) self c.start b
  if P.2.2≠0 then(P.2.2,(0,0),n)else
  if P.2.1 then(let a:=dt c n [P.1];if a.1≠0 then(a.1,(0,0),a.2)else(0,bd P.1,a.2))
  else(0,bd P.1,n)
def fq(P:bk)(n a:Int):List bY×bk:=
 if n<0\/n>=c.aD\/n=self then([],P)else([ll P.S self n],{P with gE:={P.gE with asked:=aI P.gE.asked n a}})
def pP(a:bk)(n:Int):List bY×bk:=((a.gE.due n).map λP=>ll a.S self P,{a with gE:=a.gE.Sn n})
def gP(n:Nat):List ah->au->List ah->List ah->au×List ah×List ah
 |[],a,P,b=>(a,P,b)
 |e::c,a,P,b=>
  if(a.add e).1=0 then gP n c (a.add e).2 (P++[e]) b
  else if(a.add e).1=16 then gP n c a P b
  else gP n c a P (eS n b e).2
def eE:List ah->au->List ah->au×List ah
 |[],P,n=>(P,n)
 |e::a,P,n=>if(P.add e).1=0 then eE a (P.add e).2 (n++[e])else eE a (P.add e).2 n
def pS:Nat->au->List ah->List ah->List ah×List ah
 |0,a,n,b=>(n,b)
 |k+1,a,n,b=>
  let P:=bF a b
  if P.1=[]then(n,P.2)else
  let c:=eE P.1 a n
  pS k c.1 c.2 P.2
def iZ(P:bk)(a:List ah):List ah×List ah:=
 let n:=gP c.buffer.toNat a (eZ c P.S []) [] P.waits
 pS (n.2.2.length+1) n.1 n.2.1 n.2.2
def mV(n:bk)(a:bY):List bY×Int×bk:=
 let b:=iZ c n a.events
 let n:={n with waits:=b.2}
 if b.1=[]then([z_ n.S self a.bM],0,n)else
 let P:=dt c n b.1
 if P.1≠0 then([],P.1,{P.2 with waits:=[]})else([z_ P.2.S self a.bM],0,P.2)
def cz(n:bk)(P:bY):List bY×Int×bk:=match n.log with
 |none=>([],15,n)
 |some _=>
  let no:=e_ P c.aD.toNat c.chunk
  if no≠0 then([],no,n)else
  if P.mR≠self then([],1,n)else
  if P.kind=3 then mV c self n P else
  let n:={n with gE:=n.gE.Aa P.bM P.vec n.S.vec}
  if P.kind≠4 then(my n.S self P c.chunk,0,n)else
  let a:=n.S.missing P.vec c.chunk
  if a=[]then([],0,n)else([⟨3,self,P.bM,[],a⟩],0,n)
def gY(P:bk)(n:Int):Int×bk:=fC c {P with D:=dq (P.D.ep n),waits:=[],gE:=⟨P.gE.de,[],[]⟩}
def dL(n:bk):Int×bk:=match n.log with
 |none=>(15,n)
 |some a=>
  let P:=aQ a n.D n.S.l c.bh
  if P.no≠0 then(P.no,{n with D:=P.D})else(0,{n with D:=P.D,log:=some P.V})
end
def Lj:lx:=⟨[(2,[(10,ZH 0)])],[],[],[],[]⟩
def Lk(i:(∃f:Nat->Int->ZU,(∃P,f P 0 b)/\∀(P:Nat) (n:Int) (r:Nat->Value) (g:World),f P n g->al (decide (n<(a:Int))) ((ix_ d n a λj k=>PS g (ad j (k+Int.toNat n*5+1)) (.ii e) λl=>(ix_ d n a λm o=>PS l (ad m (o+Int.toNat n*5+2)) (.ii q) λp=>(∃h,h<P/\f h (ZG .i64 (n+1)) p)))) (rt A ((.slice d a c)) g))):PP 194 #[.ii e,.ii q,.slice d a c] b A:=DC Lj Tryz.func194 rfl i
structure Kg where
 m:bY
 va:WP
 vn:Nat
 vc:Nat
 ea:WP
 en:Nat
 ec:Nat
def OF:ky Kg:=flat 5 (λn=>dZ n.m n.va n.vn n.vc n.ea n.en n.ec) (λ_=>True) (λ_=>rfl) (λa b P=>by
 simp only[dZ,Q2,List.not_mem_nil,or_false]at P;rcases P with rfl|rfl|rfl|rfl|rfl<;>rfl)
def Kg.In(P:World)(D:ZN)(n:Kg):Prop:=Row aP 8 P D n.va n.vn n.m.vec/\Row ku 96 P D n.ea n.en n.m.events
def Ey:kQ ZP 69 127 OF.k 72:=⟨kR,kR,dC⟩
def bl(b:World)(f:List bY)(g:Value)(a:World):Prop:=
 ∃(P:WP) (d e:Nat) (c:List Kg) (D:ZN),g= .slice P d e/\aV OF 127 (λn=>aG P=some n) a P d e c/\c.map (·.m)=f/\(∀n∈c,n.In a D)/\(∀n,D n->b.heap.size<=n/\n<a.heap.size/\aG P≠some n)/\(∀n,aG P=some n->b.heap.size<=n)/\ai b a
section
variable {w w':World} {p:Nat} {F D:ZN} {S:au} {a:WP} {n c:Nat}
def Kg.In.keep{n:Kg}(P:n.In w D)(a:aj f w w')(b:∀n,D n->¬f n):n.In w' D:=⟨P.1.keep a b,P.2.keep a b⟩
def Kg.In.mono{n:Kg}(P:n.In w D)(a:∀n,D n->f n):n.In w f:=⟨P.1.mono a,P.2.mono a⟩
def dx{n:ky j}{bytes:Nat}(w:World)(D:ZN):Row n bytes w D none 0 []:=⟨rfl,sM,λa b P=>by simp at P⟩
def bl.nil(w:World):bl w [] (.slice none 0 0) w:=⟨none,0,0,[],λ_=>False,rfl,(aV.nil w).mono (λP n=>n.elim) (λP n=>(by cases n)),rfl,sM,λP n=>n.elim,λP n=>(by cases n),aj.refl _⟩
def bl.af(f:bl b a5 v w)(e:ai w w'):bl b a5 v w':=by
 obtain⟨a,n,c,h,D,i,j,k,l,g,m,o⟩:=f;exact⟨a,n,c,h,D,i,j.af e,k,λP d=>(l P d).keep e λ_ _ f=>f,λP d=>⟨(g P d).1,by have:=e.size;have:=(g P d).2.1;omega,(g P d).2.2⟩,m,o.then e⟩
def bl.push{r K:TypeId}(s:bl b a5 (.slice a n c) w)(L:kQ h r 127 OF.k 72){m:bY}{i j k l y:Nat}{M:Nat×Nat}{E:ZN}(N:(⟨m,d,i,j,x,k,l⟩:Kg).In w E)(z:∀P,E P->b.heap.size<=P/\P<w.heap.size/\aG a≠some P)(O:w.heap[y]? =some (.cells (dZ m d i j x k l).toArray 127 M))(V:a5.length<=1000)(u:∀f g w',bl b (a5++[m]) (.slice f (n+1) g) w'->aj (λP=>aG a=some P) w w'->o (.slice f (n+1) g) w'):
  aJ h (Builtin.append_ #[r,r] K #[.slice a n c,.slice (ZM y) 1 1]) w o t:=by
 obtain⟨W,X,Y,v,D,Q,R,A,S,B,C,F⟩:=s
 cases Q
 have Z:v.length=a5.length:=by rw[<-A,Q8]
 refine fK (c:=OF) (x:=⟨m,d,i,j,x,k,l⟩) (D:=λ_=>False) R L O ⟨rfl,trivial⟩ (λP e=>e.elim) ba (by unfold maxLen;omega) λf g w' F' p q T=>?_;have H:∀P,aG f=some P->aG a=some P\/w.heap.size<=P:=λP e=>(T P (p.self P e)).imp id λs=>s.resolve_left id;have a0:=q.size;have z7:=F.size;refine u f g w' ⟨f,n+1,g,v++[⟨m,d,i,j,x,k,l⟩],λP=>D P\/E P,rfl,(show aV OF 127 (λP=>aG f=some P) w' f (n+1) g (v++[⟨m,d,i,j,x,k,l⟩])from p.alone),by rw[Q3,A];rfl,λP e=>?_,λP e=>?_,λP e=>?_,F.new q λP e=>.inr (C P e)⟩ q
 ·rcases Q6.1 e with e|e
  ·exact((S P e).keep q λP e=>(B P e).2.2).mono λP e=>.inl e
  ·simp at e;subst e
   exact(N.keep q λP e=>(z P e).2.2).mono λP e=>.inr e
 ·have I:b.heap.size<=P/\P<w.heap.size/\aG a≠some P:=e.elim (B P) (z P)
  exact⟨I.1,oM,λU=>(H P U).elim I.2.2 oM⟩
 ·rcases H P e with J|J
  ·exact C P J
  ·omega
def ND(z:bl b a5 (.slice a n c) w)(O:a5.length<=1000):
  PP 194 #[ZH e,ZH q,.slice a n c] w (Ok λA w'=>bl b (a5.map λm=>{m with bM:=e,mR:=q}) A w'):=by
 obtain⟨Q,R,S,d,D,B,s,x,C,o,y,E⟩:=z
 cases B
 have T:d.length=a5.length:=by rw[<-x,Q8]
 have U:=s.len dC;obtain⟨g,j⟩:∃g:Kg->Kg,g=λf=>{f with m:={f.m with bM:=e,mR:=q}}:=⟨_,rfl⟩
 refine Lk ⟨λm h w'=>∃P:Nat,h=P/\P<=n/\m=n-P/\aV OF 127 (λf=>aG a=some f) w' a n c ((d.take P).map g++d.drop P)/\aj (λf=>aG a=some f) w w',⟨_,0,rfl,Qj _,rfl,by simpa using s,aj.refl _⟩,?_⟩;rintro m _ _ V ⟨P,rfl,W,rfl,t,p⟩;refine al.dec (λX=>?_) (λY=>?_)
 ·have r:d[P]? =some d[P]:=Qq oM
  have k:∃l,a=ZM l:=by
   obtain⟨cs,D,F,-⟩:=s.body;rcases F.cases with⟨_,Z,_,_⟩|⟨l,H,rfl,_⟩
   ·omega
   ·exact⟨l,rfl⟩
  obtain⟨l,k⟩:=k;have u:((d.take P).map g++d.drop P)[P]? =some d[P]:=by
   rw[X8 be];simp[Qy,X2 (show P<=d.length by omega)]
  generalize d[P]=h at r u;have I:P<((d.take P).map g++d.drop P).length:=(Qv.1 u).1;refine⟨l,0,k,oM,oM,?_⟩;rw[Qx];refine aV.set (x':={h with m:={h.m with bM:=e}}) (j:=1) t u dC rfl k λa3 J K a4=>⟨l,0,k,oM,oM,?_⟩
  refine aV.set (x:={h with m:={h.m with bM:=e}}) (x':=g h) (j:=2) J (by rw[List.getElem?_set_self I]) dC (by rw[j];rfl) k λa0 v L a6=>⟨_,?_,P+1,an oM,oM,rfl,?_,(p.then K).then L⟩
  ·omega
  ·rw[List.set_set]at v
   have M:((d.take P).map g++d.drop P).set P (g h)=(d.take (P+1)).map g++d.drop (P+1):=by
    have N:((d.take P).map g).length=P:=by simp;omega
    rw[Qw,r,Q3,XQ,List.set_append,Zq oM,N,Nat.sub_self,X4 (show P<d.length by omega)];rfl
   rw[M]at v;exact v
 ·obtain rfl:P=n:=oM
  rw[Qz oM,List.drop_eq_nil_of_le oM,List.append_nil]at t;refine Ok.mk ⟨a,P,c,d.map g,D,rfl,t,?_,λf i=>?_,λf i=>⟨(o f i).1,by have:=p.size;have:=(o f i).2.1;omega,(o f i).2.2⟩,y,E.new p λf i=>.inr (y f i)⟩
  ·rw[<-x,List.map_map,List.map_map,j];rfl
  ·obtain⟨h,r,rfl⟩:=Xk.1 i
   have:=(C h r).keep p λf i=>(o f i).2.2;rw[j];exact this
end
section
variable {w w':World} {p:Nat} {F D E:ZN} {S:au} {m:bY} {va ea:WP} {vn vc en ec:Nat}
def bl.HG(d:bl b a5 v w)(a:ai w' b):bl w' a5 v w:=by
 obtain⟨e,f,g,h,D,i,j,k,l,c,m,o⟩:=d;have:=a.size;exact⟨e,f,g,h,D,i,j,k,l,λn P=>⟨by have:=(c n P).1;omega,(c n P).2⟩,λn P=>by have:=m n P;omega,a.then o⟩
def bl.len(n:bl b a5 (.slice d a c) w):a=a5.length:=by
 obtain⟨g,h,i,j,D,P,e,f,-⟩:=n
 cases P
 rw[e.len dC,<-f,Q8]
def bl.sl(n:bl b a5 v w):∃P a c,v= .slice P a c:=by
 obtain⟨e,f,g,h,D,d,-⟩:=n;exact⟨_,_,_,d⟩
def Jy(h:cI w p F S)(hl:S.l.length<=20000000)(Z:Row aP 8 w D va vn m.vec):
  PP 121 #[ZL p,ZH e,iP m va vn vc ea en ec,ZH q] w (Ok (bl w (my S e m q))):=by
 have hS:=h.1;have hN:=hS.n;refine Du (PA.mk λa l g0 x=>⟨λw'=>a=w'/\(m.kind=1\/m.kind=2),⟨_,ae x rfl,al.eO (λo=>⟨_,ae x rfl,al.eO (λc=>Ok.mk ?_) (λc=>⟨rfl,.inr c⟩)⟩) (λo=>⟨rfl,.inl o⟩)⟩,?_⟩)
 ·unfold my;rw[Zx ⟨o,c⟩];exact(bl.nil a).HG l
 rintro _ _ ⟨rfl,hk⟩;have b9:¬(m.kind≠1/\m.kind≠2):=oM
 obtain⟨s,K⟩:∃s,s=S.missing m.vec (max 1 (min q 32)):=⟨_,rfl⟩
 have b4:(if(if 32<q then 32 else q)>1 then(if 32<q then 32 else q)else 1)=max 1 (min q 32):=by split<;>split<;>omega
 obtain⟨d,E⟩:∃d:List bY,d=if 0<s.length then [⟨3,0,0,[],s⟩]else []:=⟨_,rfl⟩
 have g1:d.length<=1:=by rw[E];split<;>simp
 refine⟨λg i j w'=>bl a d (.slice g i j) w'/\ai a w',⟨_,_,_,ae x rfl,?_⟩,?_⟩
 ·refine PC.ok (by rw[b4];exact yM (h.af l) hl (Z.af l)) ?_
  rw[<-K];rintro _ g2 ⟨b7,n2,y,G,rfl,L,H,hG⟩;have g3:=L.len dC;have e1:=L.aE;refine⟨_,_,_,rfl,al.dec (λf6=>PA.mk λg4 M g5 e2=>?_) (λhz=>⟨?_,H⟩)⟩
  rotate_left
  ·rw[E,Zq oM]
   exact(bl.nil a).af H
  have g6:s.length<=20000000:=by
   rw[K];unfold au.missing;rw[Qy];have:=List.length_filter_le (λf:ah=>decide (max 0 (fV m.vec f.origin)<f.seq)) S.l;omega
  refine bl.push (m:=⟨3,0,0,[],s⟩) (E:=G) ((bl.nil a).af (H.then M)) Ey ⟨dx _ _,(L.af M).row dC ba⟩ (λn P=>⟨by have:=hG n P;omega,by have:=e1 n P;omega,λf=>by cases f⟩) e2 sM λa' c' g7 c4 e3=>⟨_,_,_,rfl,?_,?_⟩
  ·rw[E,Zx oM];exact c4
  ·exact(H.then M).new e3 λn P=>(by cases P)
 rintro I on oc _ e4 ⟨N,O⟩;have a0:=l.then O;have e5:=O.size;refine PC.ok (oJ (h.af a0)) ?_;rintro _ u ⟨a3,n3,c3,G3,rfl,c6,c7,c8⟩;have g8:=a0.size;have c9:=c6.aE;have d0:Row aP 8 u G3 a3 n3 S.vec:=c6.row dC (by rw[S.cj];unfold aT;omega);obtain⟨b,v⟩:∃b:List bY,b=if m.kind=1/\(mU m.vec S.vec=2\/mU m.vec S.vec=3)then [⟨2,0,0,S.vec,[]⟩]else []:=⟨_,rfl⟩
 have g9:b.length<=1:=by rw[v];split<;>simp
 have z:=O.then c7;have Q:∀n,aG I=some n->n<e4.heap.size:=λn P=>by
  obtain⟨a1,n1,t,a2,D,k,c,-⟩:=N
  cases k
  exact c.aE n P
 refine⟨_,_,_,rfl,λg i j w'=>bl a (d++b) (.slice g i j) w'/\w'.heap[w.heap.size]? =some (.cells (dZ m va vn vc ea en ec).toArray 127 (0,0))/\ai a w',⟨_,_,_,ae (z.get x id) rfl,PC.ok (NB ((Z.af (l.then z)).tU) d0.tU) ?_⟩,?_⟩
 ·rintro _ _ ⟨rfl,rfl⟩
  have R:=z.get x id;have a4:=N.af c7;have r:∀n,aG I=some n->a.heap.size<=n:=λn P=>by
   obtain⟨a1,n1,t,a2,D,k,c,A,h4,h5,T,h7⟩:=N
   cases k
   exact T n P
  have no:b=[]->bl a (d++b) (.slice I on oc) u/\u.heap[w.heap.size]? =some (.cells (dZ m va vn vc ea en ec).toArray 127 (0,0))/\ai a u:=λP=>⟨by rw[P,List.append_nil];exact a4,R,z⟩
  have B:∀{ε:ZR} {U:WP->Nat->Nat->ZU},b=[⟨2,0,0,S.vec,[]⟩]->(∀g i j w',bl a (d++b) (.slice g i j) w'/\w'.heap[w.heap.size]? =some (.cells (dZ m va vn vc ea en ec).toArray 127 (0,0))/\ai a w'->U g i j w')->
    PA u (.cells #[ZH 2,ZH 0,ZH 0,.slice a3 n3 c3,.slice none 0 0] 127) λd1=>aJ ZP (Builtin.append_ #[69,69] 69 #[.slice I on oc,.slice (ZM u.heap.size) 1 1]) d1 (λe6 d2=>∃(a5:WP) (a6:Nat) (a7:Nat),e6= .slice a5 a6 a7/\U a5 a6 a7 d2) ε:=λ{ε U} P V=>by
   refine PA.mk λd1 J h8 e7=>bl.push (m:=⟨2,0,0,S.vec,[]⟩) (E:=G3) (a4.af J) Ey ⟨d0.af J,dx _ _⟩ (λn P=>⟨by have:=c8 n P;omega,by have:=c9 n P;omega,λf=>by have:=Q n f;have:=c8 n P;omega⟩) e7 oM λa' c' d2 d3 d4=>⟨_,_,_,rfl,V _ _ _ _ ⟨by rw[P];exact d3,d4.get (J.get R id) λf=>?_,?_⟩⟩
   ·have:=r _ f;omega
   ·exact(z.then J).new d4 λn P=>.inr (r n P)
  refine⟨_,rfl,_,ae R rfl,al.eN (λo=>al.eN (λc=>B (by rw[v,Zx ⟨o,.inl c⟩]) λg i j w' h=>h) (λc=>al.eN (λA=>B (by rw[v,Zx ⟨o,.inr A⟩]) λg i j w' h=>h) (λA=>no (by rw[v,Zq];rintro⟨-,h|h⟩;exact c h;exact A h)))) (λo=>no (by rw[v,Zq λh=>o h.1]))⟩
 rintro e8 h9 i0 _ e9 ⟨C,W,a8⟩;have d5:=l.then a8;have f2:=a8.size;have a9:=C.len;have f8:(d++b).length<=2:=by rw[QX];omega
 have b0:∀{X:List bY},(if(d++b).isEmpty then [z_ S e m.bM]else(d++b).map λb5=>{b5 with bM:=e,mR:=m.bM})=X->my S e m q=X:=λ{X} hq=>by
  rw[<-hq];unfold my;rw[Zq b9,<-K];rw[E,v];have p1:(decide (mU m.vec S.vec=2\/mU m.vec S.vec=3))=decide (mU m.vec S.vec=2\/mU m.vec S.vec=3):=rfl
  by_cases t:0<s.length<;>by_cases y:m.kind=1/\(mU m.vec S.vec=2\/mU m.vec S.vec=3)
  ·simp[t,y]
  ·simp[t,y]
  ·simp[t,y]
  ·simp[t,y]
 refine al.eN (λh0=>⟨_,ae W rfl,PC.ok (Jp (h.af d5)) ?_⟩) (λh0=>⟨_,ae W rfl,PC.ok (ND C oM) ?_⟩)
 ·have k:d++b=[]:=QW oM
  rintro _ i1 ⟨b8,n5,c5,G5,rfl,d6,d7,d8⟩;have d9:=d6.aE;rw[k]at C;refine⟨_,_,_,_,_,_,_,_,_,rfl,PA.mk λi2 Y i3 f3=>?_⟩;have b1:∀n,aG e8=some n->a.heap.size<=n/\n<e9.heap.size:=λn P=>by
   obtain⟨a1,n1,t,a2,D,k,c,A,h4,h5,T,h7⟩:=C
   cases k
   exact⟨T n P,c.aE n P⟩
  refine bl.push (m:=z_ S e m.bM) (E:=G5) (C.af (d8.then Y)) Ey ⟨(d6.af Y).row dC (by show S.vec.length*8<=aT;rw[S.cj];unfold aT;omega),dx _ _⟩ (λn P=>⟨by have:=d7 n P;have:=d5.size;omega,by have:=d9 n P;omega,λf=>by have:=(b1 n f).2;have:=d7 n P;omega⟩) f3 sM λa' c' i4 e0 f4=>⟨_,_,_,rfl,_,ae (f4.get ((d8.then Y).get W id) λf=>by have:=(b1 _ f).1;omega) rfl,?_⟩
  refine PC.ok (ND e0 sM) ?_;rintro b6 i5 b2;obtain⟨g,i,j,rfl⟩:=b2.sl;refine⟨_,_,_,rfl,Ok.mk ?_⟩;rw[b0 (Zx (by rw[k];rfl))];exact b2.HG l
 ·rintro b6 i6 b3
  obtain⟨g,i,j,rfl⟩:=b3.sl;refine⟨_,_,_,rfl,Ok.mk ?_⟩;rw[b0 (Zq (by
   intro k;have:d++b=[]:=by simpa using k
   rw[this]at a9;simp at a9;omega))]
  exact b3.HG l
end
def iQ(n:lb):List Value:=[ZH n.aZ,ZH n.agg,ZH n.field,ZH n.op,ZH n.arg,ZH n.expect,ZH n.key]
abbrev w_(n:lb):Value:=.agg (iQ n).toArray
def yk(n:lb):iL ZP 38 (iQ n)=true:=kR
section
variable {w w':World} {D:ZN}
def Dg{tn m k o:Nat}(p:fw w)(h:bt w D Q d tn x k)(q:∀a,D a->a<w.heap.size):
  PP 125 #[.agg #[.slice d tn m,.slice x k o],w_ c6] w (Ok λe w'=>e= ZH (iR Q c6)/\ai w w'):=by
 refine zi (PA.mk λu r v b=>PA.mk λs l y n=>?_);have b:=l.get b id;have c:=r.then l;have P:(c6.agg<0\/c6.key<0\/c6.expect< -1)->Ok (λe w'=>e= ZH (iR Q c6)/\ai w w') (.returned (ZH 1)) s:=λf=>Ok.mk ⟨by unfold iR;rw[Zx f],c⟩;refine⟨_,ae n rfl,al.dec (λg=>P (.inl g)) (λg=>⟨_,ae n rfl,al.dec (λi=>P (.inr (.inl i))) (λi=>⟨_,ae n rfl,al.dec (λj=>P (.inr (.inr j))) (λj=>⟨_,_,_,_,_,_,ae b rfl,ae b rfl,_,ae n rfl,_,ae n rfl,_,ae n rfl,_,ae n rfl,PC.ok (ym (p.af c) (h.af c) λa f=>by have:=q a f;omega) ?_⟩)⟩)⟩)⟩;rintro _ z ⟨rfl,t⟩;exact⟨_,rfl,Ok.mk ⟨by unfold iR;rw[Zq (by rintro(h|h|h);exact g h;exact i h;exact j h)],c.then t⟩⟩
def Gh(a:∀b∈s,aM b)(n:Int):0<=fV s n/\fV s n<=9223372036854775807:=by
 unfold fV;split
 ·omega
 ·by_cases P:n.toNat<s.length
  ·have:=a _ (XY P)
   unfold aM at this;simp only[QQ,Qq P,Option.getD_some];omega
  ·simp only[QQ,Q7 (Nat.le_of_not_lt P),Option.getD_none]
   omega
def Og(n P:List Int):(kW n P).length=max n.length P.length:=by unfold kW;rw[tm]
def Tv(P a:List Int)(d:∀n∈P,aM n)(e:∀n∈a,aM n):∀n∈kW P a,aM n:=by
 intro n b;unfold kW qO at b;obtain⟨c,-,rfl⟩:=Xk.1 b;have f:=Gh d c;have g:=Gh e c;unfold aM;omega
def jT(Q:Row aP 8 w D d a s)(hl:q<=9223372036854775807)(hn:s.length<=20000000):
  PP 132 #[w_ c6,ZH e,.slice d a c,ZH q] w (Ok λv w'=>∃d a j G,v= .tuple #[kN (aX c6 e s q).2 d a j,ZH (aX c6 e s q).1]/\Row aP 8 w' G d a (aX c6 e s q).2.aN/\(∀n,G n->w.heap.size<=n/\n<w'.heap.size)/\ai w w'):=by
 have a9:=Q.len;have A:=Q.tU;refine zj (PA.mk λB k1 s1 K=>PA.mk λL R s2 S=>?_);have K:=R.get K id;have j:=k1.then R;have k:∀{m:World} {no:Int},ai L m->aX c6 e s q=(no,sH)->oG ZP 63 (ZL B.heap.size) (kN sH none 0 0) m λw4=>jZ ZP 63 (ZL B.heap.size) w4 λv=>Ok (λv w'=>∃d a j G,v= .tuple #[kN (aX c6 e s q).2 d a j,ZH (aX c6 e s q).1]/\Row aP 8 w' G d a (aX c6 e s q).2.aN/\(∀n,G n->w.heap.size<=n/\n<w'.heap.size)/\ai w w') (.returned (.tuple #[v,ZH no])) w4:=λ{m no} C T=>
  aC (bg sH none 0 0) (C.get S id) rfl λw4 l s4 M=>ar (bg sH none 0 0) M (Ok.mk ⟨none,0,0,λ_=>False,by rw[T],by rw[T];exact Row.nil _ _,λn P=>P.elim,(j.then C).new l λn P=>.inr oM⟩)
 refine al.dec (λU=>k (aj.refl _) ?_) (λU=>al.dec (λh2=>k (aj.refl _) ?_) (λh2=>al.dec (λC=>k (aj.refl _) ?_) (λC=>PC.ok (oP (A.af j)) ?_)))
 ·unfold aX;rw[Zx (.inl U)]
 ·unfold aX;rw[Zx (.inr (.inl oM))]
 ·unfold aX;rw[Zx (.inr (.inr C))]
 rintro _ _ ⟨rfl,rfl⟩;have N:¬(e<0\/(s.length:Int)<=e\/q<0):=by rintro(h|h|h)<;>omega
 refine⟨_,rfl,al.eN (λJ=>k (aj.refl _) ?_) (λJ=>al.eN (λE=>k (aj.refl _) ?_) (λE=>λm V=>?_))⟩
 ·unfold aX;rw[Zq N,Zx (.inl J)]
 ·unfold aX;rw[Zq N,Zx (.inr E)]
 have hg:=Gh A.Ad e;have wl:ZG .i64 (q+1)=q+1:=wrap_i64 bc;have ws:ZG .i64 (fV s e+1)=fV s e+1:=wrap_i64 (by unfold aM;have:fV s e≠9223372036854775807:=J;omega);have W:aX c6 e s q=(0,⟨e,ZG .i64 (fV s e+1),ZG .i64 (q+1),kW s [],c6.aZ,c6.agg,c6.field,c6.op,c6.arg,c6.key⟩):=by
  unfold aX;rw[Zq N,Zq (by rintro(h|h);exact J h;exact E h),wl,ws]
 have F:ai L m:=V.keep;have s3:m.heap.size=L.heap.size:=by rw[V.heap]
 have X:=j.then F;have y:=F.get K id;have Y:=F.get S id;have jl:(kW s []).length<=20000000:=by rw[Og];simp;omega
 have jI:∀a0∈kW s [],aM a0:=Tv s [] A.Ad sM;have z:¬(m.heap.size<=w.heap.size):=oM
 have H:∀{w4 r:World} {b:WP} {g i x:Nat},ai w r->Own r 3 1 b g i (ints (kW s []))->(∀n,aG b=some n->m.heap.size<=n/\n≠x)->r.heap[B.heap.size]? =some (.cells (aH sH none 0 0).toArray 63 (0,0))->r.heap[x]? =some (.cells #[ZH 0,ZH 0,ZH (ZG .i64 (q+1)),.slice b g i,ZH c6.aZ,ZH c6.agg,ZH c6.field,ZH c6.op,ZH c6.arg,ZH c6.key] 63 (0,0))->m.heap.size<=x->
   PS r ⟨x,0,none⟩ (ZH e) λa4=>PS a4 ⟨x,0+1,none⟩ (ZH (ZG .i64 (fV s e+1))) λZ=>jZ ZP 63 (ZL x) Z λa5=>oG ZP 63 (ZL B.heap.size) a5 Z λa2=>jZ ZP 63 (ZL B.heap.size) a2 λa6=>Ok (λv w'=>∃d a j G,v= .tuple #[kN (aX c6 e s q).2 d a j,ZH (aX c6 e s q).1]/\Row aP 8 w' G d a (aX c6 e s q).2.aN/\(∀n,G n->w.heap.size<=n/\n<w'.heap.size)/\ai w w') (.returned (.tuple #[a6,ZH 0])) a2:=λ{w4 r b g i x} E t o hz a7 b0=>by
  refine PS.mk a7 sM λw6 f s6 I=>PS.mk I sM λw7 O s7 g7=>?_;have a8:=O.get (f.get hz oM) oM;refine ar (cs:=aH ⟨e,ZG .i64 (fV s e+1),ZG .i64 (q+1),kW s [],c6.aZ,c6.agg,c6.field,c6.op,c6.arg,c6.key⟩ b g i) (bg _ _ _ _) g7 (aC (bg _ _ _ _) a8 rfl λw8 k8 s8 g8=>ar (bg _ _ _ _) g8 (Ok.mk ⟨b,g,i,λn=>aG b=some n,by rw[W],?_,λn P=>⟨by have:=o n P;omega,?_⟩,?_⟩))
  ·rw[W]
   have a3:=(((t.keep f (dw.2 λn P u=>(o n P).2 u)).keep O (dw.2 λn P u=>(o n P).2 u)).keep k8 (dw.2 λn P u=>by have:=o n P;omega))
   exact(⟨⟨_,λ_=>False,a3,lv.2 ⟨rfl,jI⟩,λ_ h=>h.elim⟩,λn P=>P,λn P=>a3.lt P⟩:aV aP 3 (λn=>aG b=some n) w8 b g i (kW s [])).row dC ba
  ·have:=t.lt P;omega
  ·exact((E.new f λn P=>.inr oM).new O λn P=>.inr oM).new k8 λn P=>.inr oM
 refine⟨λn=>m.heap.size<=n,z,_,ae y rfl,z,_,ae y rfl,z,_,ae y rfl,z,_,ae y rfl,z,_,ae y rfl,z,_,ae y rfl,PC.ok (Bc ((A.af j).af F) (Ints.nil _)) ?_,PA.mk λw4 l s4 M=>⟨ai.keep l,PC.ok (Bc (((A.af j).af F).af l) (Ints.nil _)) ?_⟩⟩
 ·rintro _ w4 ⟨b,g,i,rfl,t,l,o⟩
  have z4:=l.size;refine⟨_,_,_,rfl,ai.keep l,PA.mk λr p s5 g5=>⟨ai.keep p,aC (cs:=[ZH 0,ZH 0,ZH (ZG .i64 (q+1)),.slice b g i,ZH c6.aZ,ZH c6.agg,ZH c6.field,ZH c6.op,ZH c6.arg,ZH c6.key]) (bg ⟨0,0,ZG .i64 (q+1),[],c6.aZ,c6.agg,c6.field,c6.op,c6.arg,c6.key⟩ b g i) g5 rfl λw6 f s6 I=>⟨f.mono λn _ u=>oM,H (w4:=w4) (((X.then l).then p).new f λn P=>.inr oM) ((t.af p).keep f (dw.2 λn P u=>by have:=t.lt P;omega)) (λn P=>⟨o n P,by have:=t.lt P;omega⟩) (f.get (p.get (l.get Y id) id) oM) I oM⟩⟩⟩
 ·rintro _ r ⟨b,g,i,rfl,t,p,o⟩
  have z5:=p.size;refine⟨_,_,_,rfl,ai.keep p,aC (cs:=[ZH 0,ZH 0,ZH (ZG .i64 (q+1)),.slice b g i,ZH c6.aZ,ZH c6.agg,ZH c6.field,ZH c6.op,ZH c6.arg,ZH c6.key]) (bg ⟨0,0,ZG .i64 (q+1),[],c6.aZ,c6.agg,c6.field,c6.op,c6.arg,c6.key⟩ b g i) (p.get M id) rfl λw6 f s6 I=>⟨f.mono λn _ u=>oM,H (w4:=w4) (((X.then l).then p).new f λn P=>.inr oM) (t.keep f (dw.2 λn P u=>by have:=o n P;omega)) (λn P=>⟨by have:=o n P;omega,by have:=o n P;omega⟩) (f.get (p.get (l.get Y id) id) oM) I oM⟩⟩
end
section
variable {w w':World} {D Fs Fv:ZN} {s v:Nat} {S:au} {V:bf} {d:aS} {c:lb} {origin start:Int}
def wC(w:World)(n:ah×Bool×Int)(c:Value)(w':World):Prop:=∃a b d G,c= .tuple #[kN n.1 a b d,.bool n.2.1,ZH n.2.2]/\Row aP 8 w' G a b n.1.aN/\(∀P,G P->w.heap.size<=P/\P<w'.heap.size)/\ai w w'
def xY(d:aS)(s:au)(v:bf)(origin start:Int)(c:lb):eW d s v origin start c=if iR d c≠0 then(sH,false,iR d c)else
  match s.keyed c.key with
  |some n=>(n,false,0)
  |none=>if¬(c.expect= -1\/c.expect=((v.state c.aZ c.agg).getD ⟨0,[]⟩).version)then(sH,false,11)else
   if wV (d.at c.aZ) (match v.state c.aZ c.agg with|some P=>P.cells|none=>dX (d.at c.aZ)) c.field c.op c.arg≠0 then(sH,false,10)else
   ((aX c origin s.vec (max s.top start)).2,decide ((aX c origin s.vec (max s.top start)).1=0),(aX c origin s.vec (max s.top start)).1):=rfl
def DS{ta pa:WP}{tn tc pn pc:Nat}(hT:fw w)(hd:bt w D d ta tn pa pn)(hD:∀n,D n->n<w.heap.size)(j0:dj d=0)(hs:cI w s Fs S)(j1:S.l.length<=20000000)(hv:cG w v Fv V)(j2:V.decl=d)(o4:start<=9223372036854775807)(o1:S.top<=9223372036854775807):
  PP 80 #[.agg #[.slice ta tn tc,.slice pa pn pc],ZL s,ZL v,ZH origin,ZH start,w_ c] w (Ok (wC w (eW d S V origin start c))):=by
 refine zu (PA.mk λw1 k1 s1 g1=>PA.mk λw2 k2 s2 g2=>PA.mk λw3 k3 s3 g3=>?_);have q:=(k1.then k2).then k3;have gd:=k3.get (k2.get g1 id) id;have gc:=k3.get g2 id;have y:∀{z:World} {no:Int},ai w3 z->eW d S V origin start c=(sH,false,no)->oG ZP 63 (ZL w2.heap.size) (kN sH none 0 0) z λt=>jZ ZP 63 (ZL w2.heap.size) t λr=>Ok (wC w (eW d S V origin start c)) (.returned (.tuple #[r,.bool false,ZH no])) t:=λ{z no} h4 Q=>
  aC (bg sH none 0 0) (h4.get g3 id) rfl λt k5 s5 g5=>ar (bg sH none 0 0) g5 (Ok.mk ⟨none,0,0,λ_=>False,by rw[Q],by rw[Q];exact Row.nil _ _,λn P=>P.elim,(q.then h4).new k5 λn P=>.inr oM⟩)
 refine⟨_,_,_,_,_,_,ae gd rfl,ae gd rfl,ar (yk c) gc (PC.ok (Dg (hT.af q) (hd.af q) λn P=>by have:=hD n P;omega) ?_)⟩;rintro _ z ⟨rfl,R⟩;refine⟨_,rfl,al.eO (λT=>y R (by rw[xY,Zx T])) (λe5=>⟨_,ae (R.get gc id) rfl,PC.ok (PB (hs.af (q.then R)) j1) ?_⟩)⟩;rintro _ t ⟨U,W,X,G5,rfl,e6,e7,k5⟩;have b5:=R.then k5;have o5:=b5.size;have A:∀{r:ah×Bool×Int},(match S.keyed c.key with
  |some k=>(k,false,0)
  |none=>if¬(c.expect= -1\/c.expect=((V.state c.aZ c.agg).getD ⟨0,[]⟩).version)then(sH,false,11)else
   if wV (d.at c.aZ) (match V.state c.aZ c.agg with|some B=>B.cells|none=>dX (d.at c.aZ)) c.field c.op c.arg≠0 then(sH,false,10)else
   ((aX c origin S.vec (max S.top start)).2,decide ((aX c origin S.vec (max S.top start)).1=0),(aX c origin S.vec (max S.top start)).1))=r->eW d S V origin start c=r:=λ{r} hr=>by
  rw[xY,Zq (by simpa using e5)];exact hr
 refine cx (sF _ U W X) ⟨_,rfl,PA.mk λw6 k6 s6 g6=>aC (bg _ U W X) g6 rfl λl k7 s7 g7=>al.mk (λhk=>?_) (λhk=>?_)⟩
 ·obtain⟨k,Q⟩:=Option.isSome_iff_exists.1 hk
  rw[Q]at e6 g7 A;have b1:ai t l:=k6.new k7 λn P=>.inr oM;refine ar (bg _ U W X) g7 (aC (bg _ U W X) (b1.get (b5.get g3 id) id) rfl λw8 k8 s8 g8=>ar (bg _ U W X) g8 (Ok.mk ⟨U,W,X,G5,?_,?_,λn P=>?_,?_⟩))
  ·rw[A rfl];rfl
  ·rw[A rfl]
   exact(e6.af b1).keep k8 λn P k=>by have:=e7 n P;have:=q.size;have:=R.size;omega
  ·have:=e7 n P;have:=q.size;have:=R.size;omega
  ·exact((q.then b5).then b1).new k8 λn P=>.inr oM
 have d2:S.keyed c.key=none:=by simpa using hk
 rw[d2]at A;have b1:ai t l:=k6.new k7 λn P=>.inr oM;have K:=b5.then b1;have o6:=K.size;have b6:=q.then K;have e8:lV d c.aZ c.field c.op c.arg=0:=by
  have:=e5;unfold iR at this;split at this
  ·simp at this
  ·exact this
 have j3:V.decl.at c.aZ=d.at c.aZ:=by rw[j2]
 obtain⟨hV,b0,hq⟩:=hv;have a6:(match V.state c.aZ c.agg with|some B=>B.cells|none=>dX (d.at c.aZ)).length=(d.at c.aZ).length:=by
  unfold bf.state
  cases hs:aq V.eQ (c.aZ,c.agg)with
  |none=>simp[dX]
  |some s=>rw[<-j3];exact hV.st _ (cm hs)
 obtain⟨c4,t0,t1,o7⟩:=NF j0 e8 a6;obtain⟨C,e9⟩:∃C:Nat,c.aZ=C:=⟨c.aZ.toNat,oM⟩
 have j4:d.at c.aZ=d.types.getD C []:=by
  unfold aS.at;rw[Zx (bH.2 ⟨t0,oM⟩),e9,Qx]
 obtain⟨tb,mR,es,j5,o8,o2,j6,fa,fn,fc,rfl,b2⟩:=(hd.af b6).aZ.el C d.types[C] sM;have b2:Row sG 48 l D fa fn (d.at c.aZ):=by
  rw[j4];have:d.types.getD C []=d.types[C]:=by simp[QQ,show C<d.types.length by omega]
  rw[this];exact b2
 have o9:=(hd.af b6).aZ.len;have c7:=j6 0 dC;have f2:nB.k=1:=rfl;rw[f2,Nat.mul_one]at c7;have j7:=K.get gd id;have f3:=K.get gc id;refine⟨_,_,_,ae j7 rfl,_,ae f3 rfl,tb,mR,j5,t0,oM,fa,fn,fc,by rw[e9,Qx];exact c7,PA.mk λw8 k8 s8 g8=>PS.mk g8 sM λw9 k9 s9 g9=>?_⟩;have Y:ai l w9:=k8.new k9 λn P=>.inr oM;have d3:=Y.get f3 id;have d4:cG w v Fv V:=⟨hV,b0,hq⟩
 refine⟨_,ae d3 rfl,_,ae d3 rfl,PC.ok (oH (d4.af (b6.then Y))) ?_⟩;rintro _ d5 ⟨ca,cn,cc,j8,rfl,f4,o3,L⟩;have b3:=Y.then L;have f6:=b6.then b3;have p0:=b3.size;obtain⟨E,hX⟩:∃E,E=(match V.state c.aZ c.agg with|some B=>B.cells|none=>dX (d.at c.aZ)):=⟨_,rfl⟩
 rw[<-hX]at c4 a6 A;refine⟨_,_,_,_,_,rfl,PA.mk λp1 j9 p2 k0=>PS.mk k0 sM λp3 l0 p4 l3=>PS.mk l3 sM λf8 l4 p5 g0=>?_⟩;have a5:ai d5 f8:=(j9.new l0 λn P=>.inr oM).new l4 λn P=>.inr oM;have l5:f8.heap[l.heap.size]? =some (.cells #[.slice fa fn fc] 118 (0,0)):=a5.get (L.get g9 id) id;have c8:=f4.af a5;refine⟨λw'=>ai d5 w'/\∃ca cn cc G,w'.heap[d5.heap.size]? =some (.cells #[ZH ((V.state c.aZ c.agg).getD Ht).version,.slice ca cn cc] 49 (0,0))/\Row gB 32 w' G ca cn E,?_,?_⟩
 ·refine al.not (al.mk (λl6=>⟨a5,ca,cn,cc,j8,g0,?_⟩) (λl7=>⟨_,_,_,ae l5 rfl,PC.ok (HR (t:=d.at c.aZ) rfl b2.len (by rw[b2.len];omega)) ?_⟩))
  ·obtain⟨B,Z⟩:=Option.isSome_iff_exists.1 l6
   rw[Z]at c8 hX;have b7:E=B.cells:=hX;rw[b7];exact c8.row dC (by show B.cells.length*32<=aT;rw[<-b7,a6];unfold aT;omega)
  ·rintro _ p6 ⟨c0,n6,c6,G6,rfl,l8,d6,l9⟩
   have p7:=d6.size;refine⟨_,_,_,rfl,PS.mk (d6.get g0 id) sM λp8 g4 p9 m0=>⟨(a5.then d6).new g4 λn P=>.inr oM,c0,n6,c6,G6,m0,?_⟩⟩;have hn:V.state c.aZ c.agg=none:=by simpa using l7
   rw[hn]at hX;have b7:E=dX (d.at c.aZ):=hX;rw[b7];exact(l8.keep g4 λn P k=>by have:=l9 n P;omega).row dC (by unfold aT dX;simp;omega)
 rintro _ m1 ⟨m2,q0,q1,q2,G2,h3,h5⟩;refine PA.mk λh8 d7 q3 m3=>?_;have F:=m2.then d7;have m4:=F.size;have c9:=f6.then F;have h9:=d7.get h3 id;have i0:=F.get (L.get d3 id) id;have i1:=F.get (L.get g9 id) id;have i2:=(((K.then Y).then L).then F).get g3 id;have m:∀{z:World} {no:Int},ai h8 z->eW d S V origin start c=(sH,false,no)->oG ZP 63 (ZL w2.heap.size) (kN sH none 0 0) z λt=>jZ ZP 63 (ZL w2.heap.size) t λr=>Ok (wC w (eW d S V origin start c)) (.returned (.tuple #[r,.bool false,ZH no])) t:=λ{z no} h4 Q=>y (((K.then Y).then L).then (F.then h4)) Q;refine⟨λa9 c5 w'=>∃H:Nat,c5=H/\H<=2/\a9=2-H/\ai h8 w'/\(1<=H->c.expect= -1\/c.expect=((V.state c.aZ c.agg).getD ⟨0,[]⟩).version)/\(2<=H->wV (d.at c.aZ) E c.field c.op c.arg=0),⟨_,0,rfl,oM,rfl,aj.refl _,λh=>oM,λh=>oM⟩,?_⟩;rintro a9 _ _ wP ⟨H,rfl,hj,rfl,i,d8,m5⟩;have d0:=i.get h9 id;have a0:=i.get i0 id;have i3:=i.get i1 id;have d1:=i.get m3 id;refine al.dec (λq4=>⟨m1.heap.size,0,rfl,oM,oM,?_⟩) (λq5=>?_)
 ·have m6:H=0\/H=1:=oM
  rcases m6 with rfl|rfl
  ·refine⟨_,ae d1 rfl,_,_,_,rfl,kR,PC.ok (φ:=λv w'=>v= ZH (if c.expect= -1\/c.expect=((V.state c.aZ c.agg).getD ⟨0,[]⟩).version then 0 else 11)/\wP=w') (vo ⟨_,ae a0 rfl,al.eN (λh1=>Ok.mk ⟨by rw[Zx (.inl h1)],rfl⟩) (λh1=>⟨_,ae a0 rfl,_,ae d0 rfl,al.eN (λh2=>Ok.mk ⟨by rw[Zx (.inr h2)],rfl⟩) (λh2=>Ok.mk ⟨by rw[Zq (by rintro(h|h);exact h1 h;exact h2 h)],rfl⟩)⟩)⟩) ?_⟩
   rintro _ _ ⟨rfl,rfl⟩
   by_cases Z:c.expect= -1\/c.expect=((V.state c.aZ c.agg).getD ⟨0,[]⟩).version
   ·rw[Zx Z]
    exact⟨_,rfl,al.ff rfl ⟨_,oM,1,rfl,oM,rfl,i,λ_=>Z,λh=>oM⟩⟩
   ·rw[Zq Z]
    exact⟨_,rfl,al.tt rfl (m i (A (by rw[Zx Z])))⟩
  ·refine⟨_,ae d1 rfl,_,_,_,rfl,kR,PC.ok (φ:=λv w'=>v= ZH (wV (d.at c.aZ) E c.field c.op c.arg)/\ai wP w') (vq ⟨_,_,_,ae i3 rfl,_,_,_,ae d0 rfl,_,ae a0 rfl,_,ae a0 rfl,_,ae a0 rfl,PC.ok (HQ c4 ((b2.af (b3.then F)).af i) ((h5.af d7).af i)) ?_⟩) ?_⟩
   ·rintro _ m7 ⟨rfl,b8⟩
    exact⟨_,rfl,Ok.mk ⟨rfl,b8⟩⟩
   ·rintro _ m7 ⟨rfl,b8⟩
    refine⟨_,rfl,al.eO (λT=>m (i.then b8) (A ?_)) (λh0=>⟨_,oM,2,rfl,oM,rfl,i.then b8,λ_=>d8 oM,λ_=>h0⟩)⟩;have m8:wV (d.at c.aZ) E c.field c.op c.arg=10:=by
     rw[FR]at T⊢;split at T
     ·simp at T
     ·rename_i hq;rw[Zq hq]
    rw[Zq (λh=>h (d8 oM)),Zx T,m8]
 have i4:=A (r:=((aX c origin S.vec (max S.top start)).2,decide ((aX c origin S.vec (max S.top start)).1=0),(aX c origin S.vec (max S.top start)).1)) (by rw[Zq (λh=>h (d8 oM)),Zq (by rw[m5 oM];simp)]);have I:(if start>S.top then start else S.top)=max S.top start:=by split<;>omega
 have b9:(if start>S.top then start else S.top)<=9223372036854775807:=by split<;>omega
 refine⟨λeb eo no w'=>eo=0/\no=(aX c origin S.vec (max S.top start)).1/\ai wP w'/\∃a2 a3 a7 G,w'.heap[eb]? =some (.cells (aH (aX c origin S.vec (max S.top start)).2 a2 a3 a7).toArray 63 (0,0))/\Row aP 8 w' G a2 a3 (aX c origin S.vec (max S.top start)).2.aN/\∀n,G n->wP.heap.size<=n/\n<w'.heap.size,?_,?_⟩
 rotate_left
 ·rintro eb _ no _ q6 ⟨rfl,rfl,d9,a,b,e,p,ge,u,f⟩
  have i5:=d9.get (i.get i2 id) id;have zk:=i.size;have q7:=d9.size;have zw:=q.size;refine ar (bg _ a b e) ge (aC (bg _ a b e) i5 rfl λq8 i6 q9 m9=>ar (bg _ a b e) m9 (Ok.mk ⟨a,b,e,p,?_,?_,λn P=>?_,?_⟩))
  ·rw[i4];rfl
  ·rw[i4];exact u.keep i6 λn P k=>by have:=f n P;omega
  ·have:=f n P;omega
  ·exact(((c9.then i).then d9)).new i6 λn P=>.inr oM
 ·intro M i7
  have e0:ai wP M:=i7.keep;have r0:M.heap.size=wP.heap.size:=by rw[i7.heap]
  have i8:=e0.get a0 id;have a4:=hs.af ((c9.then i).then e0);have zk:=i.size;have hn:=hs.1.n;have c1:S.vec.length<=20000000:=by rw[S.cj];omega
  have c2:S.vec.length*8<=aT:=by unfold aT;omega
  have x:∀{wE w6 l:World} {a1:Nat} {a:WP} {b e:Nat} {p:ZN},ai M wE->Row aP 8 wE p a b (aX c origin S.vec (max S.top start)).2.aN->(∀n,p n->M.heap.size<=n/\n<wE.heap.size/\n≠a1)->ai wE w6->M.heap.size<=a1->aj (λn=>n=a1) w6 l->l.heap.size=w6.heap.size->l.heap[a1]? =some (.cells (aH (aX c origin S.vec (max S.top start)).2 a b e).toArray 63 (0,0))->
    (λ(eb eo:Nat) (no:Int) (w':World)=>eo=0/\no=(aX c origin S.vec (max S.top start)).1/\ai wP w'/\∃a2 a3 a7 G,w'.heap[eb]? =some (.cells (aH (aX c origin S.vec (max S.top start)).2 a2 a3 a7).toArray 63 (0,0))/\Row aP 8 w' G a2 a3 (aX c origin S.vec (max S.top start)).2.aN/\∀n,G n->wP.heap.size<=n/\n<w'.heap.size) a1 0 (aX c origin S.vec (max S.top start)).1 l:=λ{wE w6 l a1 a b e p} hE hr hG h6 hg h7 r3 n0=>by
   have z6:=h6.size;exact⟨rfl,rfl,((e0.then hE).then h6).new h7 λn P=>.inr oM,a,b,e,p,n0,(hr.af h6).keep h7 λn P k=>(hG n P).2.2 k,λn P=>by have:=hG n P;omega⟩
  have zc:¬(M.heap.size<=w1.heap.size):=by
   have h1:=((((k3.then K).then Y).then L).then F).size;omega
  refine⟨λn=>M.heap.size<=n,zc,ar (yk c) i8 ⟨PC.ok (oJ a4) ?_,PA.mk λr4 c3 r5 n1=>⟨ai.keep c3,PC.ok (oJ (a4.af c3)) ?_⟩⟩⟩
  ·rintro _ n2 ⟨av,nv,cv,a8,rfl,b4,j,n3⟩
   have n4:=j.size;refine⟨_,_,_,rfl,ai.keep j,PC.ok (Hq (a4.af j)) ?_,PA.mk λn8 J n9 e1=>⟨ai.keep J,PC.ok (Hq ((a4.af j).af J)) ?_⟩⟩
   ·rintro _ _ ⟨rfl,rfl⟩
    refine⟨_,rfl,aj.refl _,?_,?_⟩
    ·rw[I]
     refine PC.ok (jT (b4.row dC c2) (by rw[<-I];exact b9) c1) ?_;rintro _ e2 ⟨a,b,e,p,rfl,u,f,g⟩;have e3:=g.size;exact cx (sF _ a b e) ⟨_,rfl,ai.keep g,PA.mk λr6 i9 r7 o0=>⟨ai.keep i9,aC (bg _ a b e) o0 rfl λe4 o N O=>⟨o.mono λn _ k=>oM,x (j.then g) u (λn P=>⟨by have:=f n P;omega,(f n P).2,by have:=f n P;omega⟩) i9 oM o N O⟩⟩⟩
    ·refine PA.mk λn8 J n9 e1=>⟨ai.keep J,?_⟩
     rw[I];refine PC.ok (jT ((b4.af J).row dC c2) (by rw[<-I];exact b9) c1) ?_;rintro _ e2 ⟨a,b,e,p,rfl,u,f,g⟩;have e3:=g.size;exact cx (sF _ a b e) ⟨_,rfl,ai.keep g,aC (bg _ a b e) (g.get e1 id) rfl λe4 o N O=>⟨o.mono λn _ k=>oM,x ((j.then J).then g) u (λn P=>⟨by have:=f n P;omega,(f n P).2,by have:=f n P;omega⟩) (aj.refl _) oM o N O⟩⟩
   ·rintro _ _ ⟨rfl,rfl⟩
    refine⟨_,rfl,aj.refl _,?_⟩;refine PC.ok (by rw[I];exact jT ((b4.af J).row dC c2) (by rw[<-I];exact b9) c1) ?_;rintro _ e2 ⟨a,b,e,p,rfl,u,f,g⟩;have e3:=g.size;exact cx (sF _ a b e) ⟨_,rfl,ai.keep g,aC (bg _ a b e) (g.get e1 id) rfl λe4 o N O=>⟨o.mono λn _ k=>oM,x ((j.then J).then g) u (λn P=>⟨by have:=f n P;omega,(f n P).2,by have:=f n P;omega⟩) (aj.refl _) oM o N O⟩⟩
  ·rintro _ n2 ⟨av,nv,cv,a8,rfl,b4,j,n3⟩
   have n4:=j.size;refine⟨_,_,_,rfl,ai.keep j,PC.ok (Hq ((a4.af c3).af j)) ?_⟩;rintro _ _ ⟨rfl,rfl⟩;refine⟨_,rfl,aj.refl _,?_⟩;refine PC.ok (by rw[I];exact jT (b4.row dC c2) (by rw[<-I];exact b9) c1) ?_;rintro _ e2 ⟨a,b,e,p,rfl,u,f,g⟩;have e3:=g.size;exact cx (sF _ a b e) ⟨_,rfl,ai.keep g,aC (bg _ a b e) ((j.then g).get n1 id) rfl λe4 o N O=>⟨o.mono λn _ k=>oM,x ((c3.then j).then g) u (λn P=>⟨by have:=f n P;omega,(f n P).2,by have:=f n P;omega⟩) (aj.refl _) oM o N O⟩⟩
end
structure kp where
 ta:WP
 tn:Nat
 tc:Nat
 pa:WP
 pn:Nat
 pc:Nat
 dp:Nat
 lp:WP
 sp:Nat
 bp:Nat
 wp:Nat
 tp:Nat
abbrev kp.cells(n:kp)(P:bR)(a:Int):Array Value:= #[ZH P.aD,ZH P.uG,ZH P.bh,ZH P.chunk,ZH P.buffer,ZH P.de,ZH P.every,ZH P.start,.slice n.ta n.tn n.tc,.slice n.pa n.pn n.pc,ZH a,
 ZL n.dp,.pointer n.lp,ZL n.sp,ZL n.bp,ZL n.wp,ZL n.tp]
def DL(b:World)(G:ZN)(c:Nat)(d:WP)(D:ak)(P:Option dv):Prop:=
 ∃a,aU b c a D/\(∀n,a n->G n)/\match P with
  |none=>d=none
  |some e=>e.a_≠[]/\∃f g,d=some ⟨f,0,none⟩/\ju b c f g e/\∀n,g n->G n/\¬a n
def ON(b:World)(G:ZN)(c:Nat)(n:Nat)(d:List ah):Prop:=∃a D,iu b c a D n d/\(∀P,a P->G P)/\∀P,D P->G P
def mq(c:Nat)(d:Array Value)(P:kp)(b:bR)(a:bk)(e:List ah):Nat->World->(ZN)->Prop
 |0=>λn G=>G c/\n.heap[c]? =some (.cells d 105 (0,0))
 |1=>λn G=>bt n G b.decl P.ta P.tn P.pa P.pn
 |2=>λn G=>DL n G P.dp P.lp a.D a.log
 |3=>λn G=>cI n P.sp G a.S/\a.S.Cl/\a.S.n=b.aD.toNat
 |4=>λn G=>c_ n P.bp G b.decl b.every.toNat e
 |5=>λn G=>ON n G P.wp b.buffer.toNat a.waits
 |6=>λn G=>et n P.tp G a.gE
 |_=>λ_ _=>True
section
variable {w w' w0:World} {p:Nat} {F G T:ZN} {cls:Nat->Nat} {h:kp} {c:bR} {self:Int} {X:bk} {dp:Nat} {lp:WP} {D:ak} {log:Option dv}
def DL.keep(h:DL w G dp lp D log)(a:aj T w w')(b:∀n,G n->¬T n):DL w' G dp lp D log:=by
 obtain⟨f,g,c,d⟩:=h;refine⟨f,g.keep a λn P=>b n (c n P),c,?_⟩
 cases log with
 |none=>exact d
 |some o=>
  obtain⟨i,j,k,l,m,e⟩:=d;exact⟨i,j,k,l,m.keep a λn P=>b n (e n P).1,e⟩
def bX:mr (mq p m h c X H):=by
 intro k w w' G T n a P
 match k,n with
 |0,n=>exact⟨n.1,a.get n.2 (P p n.1)⟩
 |1,n=>exact bt.keep n a P
 |2,n=>exact DL.keep n a P
 |3,n=>exact⟨cI.keep n.1 a P,n.2⟩
 |4,n=>exact c_.keep n a P
 |5,n=>obtain⟨g,D,i,e,f⟩:=n;exact⟨g,D,i.keep a (λb d=>P b (e b d)) λb d=>P b (f b d),e,f⟩
 |6,n=>exact et.keep n a P
 |k+7,n=>trivial
structure jY (c:bR) (me:Int):Prop where
 right:fH c me=true
 decl:dj c.decl=0
 ZC:aM c.bh
 every:aM c.every
 start:aM c.start
structure Env (w0 w:World) (F:ZN):Prop where
 qf:fw w0
 laid:Laid w0
 gr:ai w0 w
 aE:∀b,F b->w0.heap.size<=b
def Env.iE(h:Env w0 w F)(a:cu F w f w'):Env w0 w' f:=⟨h.qf,h.laid,h.gr.new a.keep λn P=>.inr (h.aE n P),λn P=>(a.new n P).elim (h.aE n) λb=>by have:=h.gr.size;omega⟩
def Env.af(h:Env w0 w F)(n:ai w w'):Env w0 w' F:=⟨h.qf,h.laid,h.gr.then n,h.aE⟩
abbrev cQ(w:World)(F:ZN)(cls:Nat->Nat)(p:Nat)(h:kp)(c:bR)(self:Int)(X:bk):Prop:=bb w F cls (mq p (h.cells c self) h c X X.S.l)
def bU(w:World)(p:Nat)(F:ZN)(c:bR)(self:Int)(X:bk):Prop:=jY c self/\∃h cls,cQ w F cls p h c self X
def cQ.af(n:cQ w F cls p h c self X)(P:ai w w'):cQ w' F cls p h c self X:=bb.af n bX P
def cQ.bw(n:cQ w F cls p h c self X):w.heap[p]? =some (.cells (h.cells c self) 105 (0,0)):=(n.at' 0).2
def cQ.Ju(n:cQ w F cls p h c self X):F p/\cls p=0:=(n.at' 0).1
def bU.keep(P:bU w p F c self X)(a:aj T w w')(b:∀n,F n->¬T n):bU w' p F c self X:=by
 obtain⟨d,h,cls,e⟩:=P;exact⟨d,h,cls,bb.keep e bX a b⟩
def bU.af(n:bU w p F c self X)(P:ai w w'):bU w' p F c self X:=n.keep P λ_ _ h=>h
def bU.aE(P:bU w p F c self X):∀n,F n->n<w.heap.size:=by obtain⟨b,h,cls,a⟩:=P;exact a.aE
def cQ.store{a:kp}(n:bb w F cls (mq p m a c X H))(d:aj (·=p) w w')(e:w'.heap[p]? =some (.cells Y 105 (0,0))):bb w' F cls (mq p Y a c X H):=by
 refine bb.same n bX (k:=0) (d.mono λf _ P=>by have P:f=p:=P;exact P▸(n.at' 0).1) ⟨(n.at' 0).1,e⟩ λb G g h=>?_;rcases b with _|_|_|_|_|_|_|b<;>first|exact h|exact Zz rfl g
def DL.Pl(g:DL w G dp lp D (some b2))(c:Env w0 w G)(l:∀n,G n->n<w.heap.size):∃b,lp=ZM b/\b2.a_≠[]/\cE w0 w dp b b2 D (λn=>n<w.heap.size/\¬G n):=by
 obtain⟨h,i,e,j,b,k,rfl,f,d⟩:=g;refine⟨b,rfl,j,k,⟨h,i,c.gr,λn P=>⟨c.aE n (e n P),λa=>?_⟩,λn P=>?_⟩,f,λn P=>⟨c.aE n (d n P).1,λa=>a.2 (d n P).1⟩⟩
 ·rcases a with a|a
  ·exact a.2 (e n P)
  ·exact(d n a).2 P
 ·rcases P with P|P
  ·exact P.1
  ·exact f.aE n P
def DL.uG(c:DL w G dp lp D log)(a:Env w0 w G):aY w0 w dp D (λn=>n<w.heap.size/\¬G n):=by
 obtain⟨d,e,b,-⟩:=c;exact⟨d,e,a.gr,λn P=>⟨a.aE n (b n P),λf=>f.2 (b n P)⟩,λn P=>P.1⟩
def DL.Hd{Y:ZN}(l:cE w0 w' dp a b2 D (λn=>(n<w.heap.size/\¬G n)\/Y n))(m:aj (dS λn=>n<w.heap.size/\¬G n) w w')(o:b2.a_≠[]):∃c,DL w' c dp (ZM a) D (some b2)/\cu G w c w'/\(∀n,c n->n<w'.heap.size)/\∀n,c n->¬Y n:=by
 obtain⟨f,⟨g,h,r,d,s⟩,i,j⟩:=l;have e:∀n,¬(n<w.heap.size/\¬G n)->G n\/w.heap.size<=n:=λn P=>by
  rcases Nat.lt_or_ge n w.heap.size with b|b
  ·exact .inl (Classical.byContradiction λp=>P ⟨b,p⟩)
  ·exact .inr b
 refine⟨λn=>g n\/f n,⟨g,h,λn P=>.inl P,o,a,f,rfl,i,λn P=>⟨.inr P,λq=>(d n q).2 (.inr P)⟩⟩,⟨m.mono λn t P=>(e n P).resolve_right oM,λn P=>?_⟩,λn P=>?_,λn P k=>?_⟩
 ·rcases P with P|P
  ·exact e n λb=>(d n P).2 (.inl (.inl b))
  ·exact e n λb=>(j n P).2 (.inl b)
 ·exact P.elim (h.aE n) (i.aE n)
 ·rcases P with P|P
  ·exact(d n P).2 (.inl (.inr k))
  ·exact(j n P).2 (.inr k)
def DL.Nw{Y:ZN}(g:aY w0 w' dp D (λn=>(n<w.heap.size/\¬G n)\/Y n))(h:aj (dS λn=>n<w.heap.size/\¬G n) w w'):∃b,DL w' b dp none D none/\cu G w b w'/\(∀n,b n->n<w'.heap.size)/\∀n,b n->¬Y n:=by
 obtain⟨c,d,k,e,l⟩:=g;have f:∀n,¬(n<w.heap.size/\¬G n)->G n\/w.heap.size<=n:=λn P=>by
  rcases Nat.lt_or_ge n w.heap.size with a|a
  ·exact .inl (Classical.byContradiction λi=>P ⟨a,i⟩)
  ·exact .inr a
 exact⟨c,⟨c,d,λn P=>P,rfl⟩,⟨h.mono λn m P=>(f n P).resolve_right oM,λn P=>f n λa=>(e n P).2 (.inl a)⟩,λn P=>d.aE n P,λn P j=>(e n P).2 (.inr j)⟩
end
def JD{D:ak}(P:b2.a_≠[]):(aK b2 D).2.1.a_≠[]:=by
 have b:∀n:ak,(nq b2 n).2.1.a_≠[]:=by
  intro n;unfold nq;dsimp only;split
  ·exact P
  ·split
   ·exact P
   ·simp
 have a:∀n:ak,(bz b2 n).2.1.a_≠[]:=by
  intro n;unfold bz;dsimp only;split
  ·exact P
  ·exact b _
 unfold aK;dsimp only;split
 ·exact a D
 ·split
  ·exact P
  ·exact a _
def Hg{D:ak}{l:List ah}(n:b2.a_≠[]):(aF b2 D l).2.1.a_≠[]:=by
 unfold aF;dsimp only;have P:(if b2.size<=b2.bytes then aK b2 D else(0,b2,D)).2.1.a_≠[]:=by
  split
  ·exact JD n
  ·exact n
 generalize(if b2.size<=b2.bytes then aK b2 D else(0,b2,D))=a at P⊢;split
 ·exact n
 split
 ·exact n
 split
 ·exact P
 split
 ·exact P
 ·exact P
def Sj(c:Row ku 96 b f d a H):∀n∈H,n.Ok:=λn e=>by
 obtain⟨P,g,rfl⟩:=List.getElem_of_mem e;obtain⟨i,j,k,-,-,-,-,l,m,o,-,-,h⟩:=c.el P H[P] (Qq g);exact h
def au.JE:∀{l:List ah} {S:au} {n:ah},n∈S.l->n∈(S.eB l).l
 |[],S,n,P=>P
 |e::l,S,n,P=>au.JE (l:=l) (S:=(S.add e).2) (by
  rcases S.eT e with⟨-,a⟩|⟨b,-⟩
  ·rw[a];exact P
  ·rw[b];exact(cN e S.l).mem_iff.2 (QJ _ P))
def vY{n:bR}(a:B.Cl)(b:B.n=n.aD.toNat)(P:List ah):eZ n B P=B.eB P:=by
 unfold eZ;rw[au.AT,<-b,a.Vo]
section
variable {w w' w0:World} {p:Nat} {F E T:ZN} {cls:Nat->Nat} {h:kp} {c:bR} {self:Int} {X:bk} {evs:List ah} {ea:WP} {en ec:Nat}
def jY.aD(n:jY c self):c.aD=(c.aD.toNat:Int)/\c.aD.toNat<=64/\1<=c.aD.toNat:=by
 have:=n.right;unfold fH within at this;simp only[QK,Zk]at this;omega
def JF(s:cQ w F cls p h c self X)(b0:jY c self)(hr:Row ku 96 w E ea en evs)(t:∀n,E n->n<w.heap.size)(hl:X.S.l.length+evs.length<=20000000):
  PP 136 #[ZL p,.slice ea en ec] w (Ok λa0 w'=>∃L b,a0= ZL L/\cI w' L b (eZ c X.S evs)/\(∀n,b n->w.heap.size<=n)/\ai w w'):=by
 obtain⟨b1,b2,c6⟩:=b0.aD;have fO:=(s.at' 3).1;refine o_ ⟨p,0,rfl,_,ae s.bw rfl,?_⟩;rw[b1];refine PC.ok (FO b2) ?_;rintro _ w7 ⟨u,j,rfl,M,v,k⟩;have f:=cQ.af s k;refine⟨_,rfl,p,0,rfl,_,ae f.bw rfl,PC.ok (si (fO.af k) oM) ?_⟩;rintro _ c7 ⟨a2,x,c1,G,rfl,g,y,l⟩;have N:=M.aE;have c8:=g.aE;have z7:=k.size;have c9:=y.size;have O:=k.then y;refine⟨_,_,_,rfl,Am g Kh (hr.af O) (λn P=>⟨by have:=t n P;omega,λz=>by have:=t n P;have:=l n (g.self n z);omega⟩) ba (by unfold maxLen;omega) λa' c' m Q A B b3 _=>⟨_,_,_,rfl,?_⟩⟩;have b4:=A.len dC;have d0:=B.size;rw[QX]at b4;have a3:Row ku 96 m Q a' (x+en) (X.S.l++evs):=A.row dC (by rw[QX];unfold aT;omega);have R:=A.aE;have S:∀n,Q n->¬j n:=λn P o=>by
  have d:=v n o;have h6:=N n o;rcases b3 n P with f|f|f
  ·have:=l n f;omega
  ·have:=t n f;omega
  ·omega
 have a4:ai w m:=O.new B λn P=>.inr (by have:=l n (g.self n P);omega);have a5:=(M.af y).keep B λn P z=>by have:=N n P;have:=l n (g.self n z);omega
 refine⟨λT C w'=>∃(a:Nat) (b:ZN),C=a/\a<=x+en/\T=x+en-a/\cI w' u b ((⟨c.aD.toNat,[]⟩:au).eB ((X.S.l++evs).take a))/\(∀n,b n->j n\/m.heap.size<=n)/\aj j m w',⟨_,0,j,rfl,Qj _,rfl,a5,λn P=>.inl P,aj.refl _⟩,?_⟩;rintro T _ _ U ⟨a,b,rfl,hj,rfl,H,q,r⟩;have d1:=r.size;refine al.dec (λd2=>?_) (λd3=>?_)
 ·obtain⟨e,V⟩:∃e,(X.S.l++evs)[a]? =some e:=⟨_,Qq (by rw[QX];omega)⟩
  obtain⟨n,a1,es,ha,d4,d5,b5,I,J,K,rfl,b6,a7⟩:=(a3.keep r S).el a e V;refine⟨n,a1,ha,oM,oM,ck (es:=aH e I J K) (k:=10) (bg _ _ _ _) rfl (λC ht=>by rw[Qx];exact b5 C ht) (PA.mk λd6 b7 d7 b8=>aC (bg e I J K) b8 rfl λb9 c2 d8 c3=>ar (bg e I J K) c3 ?_)⟩;have i:ai U b9:=b7.new c2 λn P=>.inr (by have P:n=U.heap.size:=P;omega);have W:=au.nH ((X.S.l++evs).take a) ⟨c.aD.toNat,[]⟩;rw[Qy,QX]at W;simp only[ZQ]at W;refine PC.ok (uU (H.af i) (b6.af i) (λn P=>⟨by have:=R n P;have:=i.size;omega,λo=>?_⟩) a7 oM) ?_
  ·rcases q n o with d|d
   ·exact S n P d
   ·have:=R n P;omega
  rintro _ c4 ⟨rfl,Y,c5,Z⟩;refine⟨_,rfl,_,oM,a+1,Y,an oM,oM,rfl,?_,λn P=>?_,(r.af i).new Z.keep λn P=>q n P⟩
  ·rw[Qw,V]
   show cI c4 u Y (au.eB _ ((X.S.l++evs).take a++[e]));rw[au.nI];exact c5
  ·rcases Z.new n P with d|d
   ·exact q n d
   ·have:=i.size;exact .inr oM
 ·rw[Qz (by rw[QX];omega)]at H
  exact Ok.mk ⟨u,b,rfl,H,λn P=>(q n P).elim (v n) λd=>oM,a4.new r λn P=>.inr (v n P)⟩
end
section
variable {w w' w0:World} {p:Nat} {F E T:ZN} {cls:Nat->Nat} {h:kp} {c:bR} {self:Int} {X:bk} {evs lB:List ah} {ea:WP} {en ec:Nat}
def Env.sub(P:Env w0 w F)(a:∀n,f n->F n):Env w0 w f:=⟨P.qf,P.laid,P.gr,λn b=>P.aE n (a n b)⟩
def Sk(n:B.OK)(a:l∈B.l)(b:N∈B.l)(c:bd l=bd N):l=N:=by
 have P:=n.get a;have d:=n.get b;rw[c,d]at P;exact(XJ P).symm
def Cz(v:bb w F cls (mq p (h.cells c self) h c X lB))(j:Env w0 w F)(R:∀(x:Nat) (l m:ah),lB[x]? =some l->X.S.l[x]? =some m->bd l=bd m->l=m)(y:X.S.l.length<=20000000){κ:ZR}(o:∀w' f P,cQ w' f P p h c self X->cu F w f w'->κ (ZH 0) w'):
  ∀qd,cy w qd->∃q:ZN,(∃r z,(ZM p:WP)=some ⟨r,z,none⟩/\(¬q r/\(∃(A:WP),qd.cell? ⟨r,z+14,none⟩=some (.pointer A)/\(∃B C,(ZM p:WP)=some ⟨B,C,none⟩/\(∃(E:WP),qd.cell? ⟨B,C+13,none⟩=some (.pointer E)/\
   PC ZP 59 #[.pointer E] qd (λS b=>∃(H:WP) (I:Nat) (J:Nat),S= .slice H I J/\(aj q qd b/\PC ZP 75 #[.pointer A,.slice H I J] b (λT g=>∃(U:Int),T= ZH U/\(aj q b g/\κ (ZH 0) g)) a6)) h3))))):=by
 intro qd V;have s:ai w qd:=V.keep;have i:=bb.af v bX s;have K:=(i.at' 0).2;refine⟨λn=>F n/\cls n=4,p,0,rfl,λW=>?_,_,ae K rfl,p,0,rfl,_,ae K rfl,PC.ok (si (show cI qd h.sp (λn=>F n/\cls n=3) X.S from(i.at' 3).1) y) ?_⟩
 ·have:=W.2
  have Y:=(show(F p/\cls p=0)/\_ from v.at' 0).1.2;rw[Y]at this;cases this
 rintro _ b ⟨a2,a3,cc,G,rfl,t,e,Z⟩;have b5:=e.size;have a0:=i.aE;have L:=bb.af i bX e;have a8:=t.lA;have a1:c_ b h.bp (λn=>F n/\cls n=4) c.decl c.every.toNat lB:=L.at' 4;refine⟨_,_,_,rfl,ai.keep e,PC.ok (HB a1 j.qf ((j.gr.then s).then e) (λn d=>j.aE n d.1) (t.row dC ba) a8 (λn d=>⟨t.aE n d,λhf=>by have:=a0 n hf.1;have:=Z n d;omega⟩) y R) ?_⟩;rintro _ g ⟨k,rfl,G4,M,N⟩;obtain⟨f,P,u,a,-,-⟩:=L.iE bX (k:=4) (G':=G4) (C2:=mq p (h.cells c self) h c X X.S.l) N M.aE M λO G hj hc=>by
  rcases O with _|_|_|_|_|_|_|O<;>first|exact hc|exact Zz rfl hj
 have Q:ai w b:=s.then e;exact⟨_,rfl,N.keep,o g f P u ⟨(ai.keep Q).then a.keep,λn d=>(a.new n d).imp id λh1=>by have:=Q.size;omega⟩⟩
def Jv(x:cQ w F cls p h c self X)(c1:jY c self)(y:Env w0 w F){V:dv}(b3:X.log=some V)(Y:Row ku 96 w E ea en evs)(Z:∀P,E P->P<w.heap.size/\¬(F P/\cls P=2))(hl:X.S.l.length+evs.length<=20000000):
  PP 81 #[ZL p,.slice ea en ec] w (Ok λz w'=>z= ZH (dt c X evs).1/\∃A r d,cQ w' r d p A c self (dt c X evs).2/\cu F w r w'/\A.wp=h.wp):=by
 obtain⟨b,D,c2,n,i⟩:=X;simp only at b3 hl;subst b3;obtain⟨hS,B,hn⟩:=(show cI w h.sp (λP=>F P/\cls P=3) b/\b.Cl/\b.n=c.aD.toNat from x.at' 3)
 have c3:=x.aE;obtain⟨e1,C,H,a0⟩:=DL.Pl (show DL w (λP=>F P/\cls P=2) h.dp h.lp D (some V)from x.at' 2) (y.sub λP a=>a.1) λP a=>c3 P a.1;have c4:=Sj Y;have a2:∀P,E P->P<w.heap.size:=λP a=>(Z P a).1;refine oX ⟨p,0,rfl,_,ae x.bw rfl,?_⟩;rw[C];refine PC.ok (LZ y.laid a0 H Y a2 oM) ?_;rintro _ w7 ⟨rfl,a1,k7⟩;have I:=Hg (D:=D) (l:=evs) H;have s:∀{a3},(if(aF V D evs).1≠0 then((aF V D evs).1,({S:=b,D:=(aF V D evs).2.2,log:=some (aF V D evs).2.1,waits:=n,gE:=i}:bk))else
   if((aF V D evs).2.2.sync (aF V D evs).2.1.last).1≠0 then(((aF V D evs).2.2.sync (aF V D evs).2.1.last).1,{S:=b,D:=((aF V D evs).2.2.sync (aF V D evs).2.1.last).2,log:=some (aF V D evs).2.1,waits:=n,gE:=i})else
   (0,{S:=eZ c b evs,D:=((aF V D evs).2.2.sync (aF V D evs).2.1.last).2,log:=some (aF V D evs).2.1,waits:=n,gE:=i}))=a3->dt c ⟨b,D,some V,n,i⟩ evs=a3:=λ{a3} hq=>hq
 generalize e2:aF V D evs=ap at a1 I s;obtain⟨e3,t,D7⟩:=ap;simp only at a1 I s;obtain⟨G7,J,a4,a5,-⟩:=DL.Hd (Y:=λ_=>False) (a1.mono λP a=>a.elim id False.elim) k7 I;obtain⟨F7,k,K,e,-,-,c5⟩:=x.iE bX (k:=2) (G':=G7) (C2:=mq p (h.cells c self) h c ⟨b,D7,some t,n,i⟩ b.l) a4 a5 (by rw[<-C]at J;exact J) λl G L M=>by
  rcases l with _|_|_|_|_|_|_|l<;>first|exact M|exact Zz rfl L
 refine⟨_,rfl,al.eO (λa6=>Ok.mk ?_) (λh0=>?_)⟩
 ·rw[s (Zx a6)]
  exact⟨rfl,h,F7,k,K,e,rfl⟩
 simp only at h0;have c6:=y.iE e;obtain⟨q2,m,-,u⟩:=DL.Pl (show DL w7 (λP=>F7 P/\k P=2) h.dp h.lp D7 (some t)from K.at' 2) (c6.sub λP a=>a.1) λP a=>K.aE P a.1;refine⟨p,0,rfl,_,ae (K.at' 0).2 rfl,?_⟩;rw[m];refine PC.ok (Ji y.laid u I) ?_;rintro _ b4 ⟨rfl,a7,c7⟩;generalize e4:D7.sync t.last=sy at a7 s;obtain⟨s1,S⟩:=sy;simp only at a7 s;obtain⟨a8,o,g,N,-⟩:=DL.Hd (Y:=λ_=>False) (a7.mono λP a=>a.elim id False.elim) c7 I;obtain⟨O,v,f,j,-,a9,T⟩:=K.iE bX (k:=2) (G':=a8) (C2:=mq p (h.cells c self) h c ⟨b,S,some t,n,i⟩ b.l) g N (by rw[<-m]at o;exact o) λl G L M=>by
  rcases l with _|_|_|_|_|_|_|l<;>first|exact M|exact Zz rfl L
 have b0:=e.trans j;refine⟨_,rfl,al.eO (λa6=>Ok.mk ?_) (λh1=>?_)⟩
 ·rw[s ((Zq (by simpa using h0)).trans (Zx a6))]
  exact⟨rfl,h,O,v,f,b0,rfl⟩
 simp only at h1;have c8:=s ((Zq (by simpa using h0)).trans (Zq (by simpa using h1)));rw[c8];have c9:Row ku 96 b4 E ea en evs:=by
  refine(Y.keep a4.keep λP a=>(Z P a).2).keep g.keep λP a hf=>?_;rcases a4.new P (c5▸hf)with h5|h5
  ·exact(Z P a).2 h5
  ·have:=a2 P a;omega
 refine PC.ok (JF f c1 c9 (λP a=>by have:=a2 P a;have:=b0.keep.size;omega) hl) ?_;rintro _ d0 ⟨U,F2,rfl,b5,d1,d2⟩;have d3:(eZ c b evs).n=c.aD.toNat:=au.QA _ _;have b1:=vY B hn evs;have b6:(eZ c b evs).Cl:=by rw[b1];exact au.Cl.eB B c4
 obtain⟨F3,Q,b7,q,d4,-⟩:=f.fk bX (k:=3) (w':=d0) (G':=F2) (C2:=mq p (h.cells c self) {h with sp:=U} c ⟨eZ c b evs,S,some t,n,i⟩ b.l) (ai.keep d2) (λP a=>.inr (d1 P a)) b5.aE ⟨b5,b6,d3⟩ λl G L M=>by
  rcases l with _|_|_|_|_|_|_|l<;>first|exact M|exact Zz rfl L
 refine⟨_,rfl,p,0,rfl,PS.mk (b7.at' 0).2 sM λb8 b9 e5 d5=>?_⟩;have d6:bb b8 F3 Q (mq p (({h with sp:=U}:kp).cells c self) {h with sp:=U} c ⟨eZ c b evs,S,some t,n,i⟩ b.l):=cQ.store b7 b9 d5;have d7:cu O b4 F3 b8:=⟨q.keep.then (b9.mono λP _ R=>by have R:P=p:=R;rw[R];exact(f.at' 0).1.1),q.new⟩
 have c0:=b0.trans d7;have d8:∀W∈b.l,W∈(eZ c b evs).l:=λW hx=>by rw[b1];exact au.JE hx
 have d9:(eZ c b evs).l.length<=20000000:=by rw[b1];exact Xx (au.nH _ _) hl
 exact Cz d6 (y.iE c0) (λe6 W e7 hx hy R=>Sk b6.ok (d8 W (QZ hx)) (QZ hy) R) d9 (κ:=λz w'=>Ok (λz w'=>z= ZH 0/\∃A r d,cQ w' r d p A c self ⟨eZ c b evs,S,some t,n,i⟩/\cu F w r w'/\A.wp=h.wp) (.returned z) w')
  λw' r d b2 e0=>Ok.mk ⟨rfl,{h with sp:=U},r,d,b2,c0.trans e0,rfl⟩
end
def Cx{D:ak}{size:Int}(n:(aR D size).no=0):(aR D size).V.a_≠[]:=by
 revert n
 unfold aR;generalize cO (told D) [] (dN D size) D=b;unfold gj;split
 ·rename_i a;intro n;exact Zz n a
 split
 ·intro n;exact tE n
 rename_i P;split
 ·intro _;exact P
 ·intro _;exact P
abbrev xX(n:kp)(P:bR)(a:Int)(b c d:WP):Array Value:= #[ZH P.aD,ZH P.uG,ZH P.bh,ZH P.chunk,ZH P.buffer,ZH P.de,ZH P.every,ZH P.start,.slice n.ta n.tn n.tc,.slice n.pa n.pn n.pc,ZH a,
 ZL n.dp,.pointer b,.pointer c,.pointer d,ZL n.wp,ZL n.tp]
def recC(c:Nat)(d:Array Value)(P:kp)(b:bR)(a:bk)(e:Bool):Nat->World->(ZN)->Prop
 |0=>λn G=>G c/\n.heap[c]? =some (.cells d 105 (0,0))
 |1=>λn G=>bt n G b.decl P.ta P.tn P.pa P.pn
 |2=>λn G=>DL n G P.dp P.lp a.D a.log
 |3=>λn G=>e=true->cI n P.sp G a.S/\a.S.Cl/\a.S.n=b.aD.toNat
 |5=>λn G=>ON n G P.wp b.buffer.toNat a.waits
 |6=>λn G=>et n P.tp G a.gE
 |_=>λ_ _=>True
section
variable {w w' w0:World} {p:Nat} {F E T:ZN} {cls:Nat->Nat} {h:kp} {c:bR} {self:Int} {X:bk} {evs lB:List ah} {ea:WP} {en ec:Nat}
def iB:mr (recC p m h c X K):=by
 intro k w w' G T n a P
 match k,n with
 |0,n=>exact⟨n.1,a.get n.2 (P p n.1)⟩
 |1,n=>exact bt.keep n a P
 |2,n=>exact DL.keep n a P
 |3,n=>exact λe=>⟨cI.keep (n e).1 a P,(n e).2⟩
 |4,n=>trivial
 |5,n=>obtain⟨i,D,j,f,g⟩:=n;exact⟨i,D,j.keep a (λb d=>P b (f b d)) λb d=>P b (g b d),f,g⟩
 |6,n=>exact et.keep n a P
 |k+7,n=>trivial
def yN{z1 z2 z3:WP}(T:bb w F cls (recC p (xX h c self z1 z2 z3) h c X false))(L:jY c self)(A:Env w0 w F):
  PP 46 #[ZL p] w (Ok λB w'=>B= ZH (fC c X).1/\(fC c X).2.S.l.length<=16777216/\∃U q d,cQ w' q d p U c self (fC c X).2/\cu F w q w'):=by
 obtain⟨g0,d2,j5⟩:=L.aD;have g1:=T.aE;have V:F p/\cls p=0:=(T.at' 0).1;have j0:1<=c.every:=by
  have:=L.right;unfold fH at this;simp only[QK,Zk]at this;omega
 refine mh λw3 d3=>?_;have W:ai w w3:=d3.keep;have M:=bb.af T iB W;have N:=(M.at' 0).2;refine⟨λ_=>False,p,0,rfl,_,ae N rfl,p,0,rfl,id,_,_,_,_,_,_,ae N rfl,ae N rfl,p,0,rfl,id,_,ae N rfl,?_⟩;rw[g0];refine PC.ok (FO d2) ?_;rintro _ d4 ⟨e,F2,rfl,Y,d5,C⟩;have a9:=W.then C;have d6:=bb.af M iB C;refine⟨_,rfl,C,PC.ok (Qb L.decl L.every ((A.qf.af A.gr).af a9) (show bt d4 (λn=>F n/\cls n=1) c.decl h.ta h.tn h.pa h.pn from d6.at' 1) λn P=>d6.aE n P.1) ?_⟩;rintro _ g2 ⟨g,F4,rfl,Z,d7,b7⟩;have y3:=W.size;have j6:=C.size;have j7:=b7.size;rw[show(max 1 c.every).toNat=c.every.toNat by congr 1;omega]at Z;have j1:=Y.aE;obtain⟨Fa,d1,E,b0,g4,-⟩:=M.HA iB (k:=3) (w':=d4) (G':=F2) (C2:=recC p (xX h c self z1 z2 z3) {h with sp:=e} c {X with S:=⟨c.aD.toNat,[]⟩} true) (ai.keep C) (λn P l=>by have:=d5 n P;have:=g1 n l;omega) Y.aE (λ_=>⟨Y,au.Cl.new d2,rfl⟩) λa G i j=>by
  rcases a with _|_|_|_|_|_|_|a<;>first|exact j|exact Zz rfl i
 obtain⟨u,r,b8,b1,g5,-⟩:=E.HA iB (k:=4) (w':=g2) (G':=F4) (C2:=mq p (xX h c self z1 z2 z3) {h with sp:=e,bp:=g} c {X with S:=⟨c.aD.toNat,[]⟩} []) (ai.keep b7) (λn P l=>by have:=d7 n P;have:=E.aE n l;omega) Z.aE Z λa G i j=>by
  rcases a with _|_|_|_|_|_|_|a<;>first|exact j|exact j rfl|exact Zz rfl i
 have d8:∀n,u n->F n\/w.heap.size<=n:=λn P=>by
  rcases g5 n P with k|k
  ·rcases g4 n k.1 with h6|h6
   ·exact .inl h6.1
   ·exact .inr (by have:=d5 n h6;omega)
  ·exact .inr (by have:=d7 n k;omega)
 refine⟨_,rfl,p,0,rfl,PS.mk (b8.at' 0).2 sM λj8 d9 j9 g6=>⟨p,0,rfl,PS.mk g6 sM λb9 e0 k0 g7=>λc1 g8=>?_⟩⟩;have j2:u p/\r p=0:=(b8.at' 0).1;have e1:ai b9 c1:=g8.keep;have g9:bb b9 u r (mq p (xX h c self z1 (ZM e) (ZM g)) {h with sp:=e,bp:=g} c {X with S:=⟨c.aD.toNat,[]⟩} []):=cQ.store b8 (d9.then e0) g7;have b2:cu F w u b9:=⟨((ai.keep a9).af b7).then ((d9.then e0).mono λn _ f=>by have f:n=p:=f;rw[f];exact V.1),d8⟩
 have H:=bb.af g9 bX e1;have O:cu F w u c1:=⟨b2.keep.af e1,b2.new⟩
 have e2:=A.iE O;have e3:=(H.at' 0).2;have h4:=DL.uG (show DL c1 (λn=>u n/\r n=2) h.dp h.lp X.D X.log from H.at' 2) (e2.sub λn P=>P.1);refine⟨p,0,rfl,_,ae e3 rfl,p,0,rfl,_,ae e3 rfl,PC.ok (IB A.laid h4) ?_⟩;have a0:∀{b},(if(aR X.D c.bh).no≠0 then((aR X.D c.bh).no,{X with D:=(aR X.D c.bh).D,log:=none,S:=⟨c.aD.toNat,[]⟩})
   else(0,{X with D:=(aR X.D c.bh).D,log:=some (aR X.D c.bh).V,S:=(⟨c.aD.toNat,[]⟩:au).eB (aR X.D c.bh).out}))=b->fC c X=b:=λ{b} hq=>hq
 have b3:=Cx (D:=X.D) (size:=c.bh);generalize aR X.D c.bh=b at a0 b3;rintro _ h7 (⟨I,rfl,e5,c3⟩|⟨I,s,e9,a1,cc,G,rfl,c4,h8,c3,hG,hq,j3⟩)
 ·obtain⟨G2,c5,a2,c6,-⟩:=DL.Nw (Y:=λ_=>False) (e5.mono λn P=>P.elim id False.elim) c3
  obtain⟨t,Q,v,a3,-,-⟩:=H.iE bX (k:=2) (G':=G2) (C2:=mq p (xX h c self z1 (ZM e) (ZM g)) {h with sp:=e,bp:=g,lp:=none} c {X with S:=⟨c.aD.toNat,[]⟩,D:=b.D,log:=none} []) a2 c6 (by
    obtain⟨Fd,h1,h2,M⟩:=c5;exact⟨Fd,h1,h2,rfl⟩) λa G i j=>by
   rcases a with _|_|_|_|_|_|_|a<;>first|exact j|exact Zz rfl i
  refine⟨_,_,_,_,_,rfl,p,0,rfl,PS.mk (v.at' 0).2 sM λx y e4 c7=>al.eO (λ_=>Ok.mk ?_) (λh0=>Zz h0 I)⟩;rw[a0 (Zx I)];refine⟨rfl,Qj _,{h with sp:=e,bp:=g,lp:=none},t,Q,cQ.store v y c7,?_⟩;have J:=O.trans a3;exact⟨J.keep.then (y.mono λn _ f=>by have f:n=p:=f;rw[f];exact V.1),J.new⟩
 ·obtain⟨G2,c5,a2,c6,hY⟩:=DL.Hd h8 c3 (b3 I)
  obtain⟨t,Q,v,a3,h9,-⟩:=H.iE bX (k:=2) (G':=G2) (C2:=mq p (xX h c self z1 (ZM e) (ZM g)) {h with sp:=e,bp:=g,lp:=ZM s} c {X with S:=⟨c.aD.toNat,[]⟩,D:=b.D,log:=some b.V} []) a2 c6 c5 λa G i j=>by
   rcases a with _|_|_|_|_|_|_|a<;>first|exact j|exact Zz rfl i
  refine⟨_,_,_,_,_,rfl,p,0,rfl,PS.mk (v.at' 0).2 sM λx y e4 c7=>al.eO (λh0=>Zz rfl h0) (λ_=>?_)⟩;have f0:bb x t Q (mq p (({h with sp:=e,bp:=g,lp:=ZM s}:kp).cells c self) {h with sp:=e,bp:=g,lp:=ZM s} c {X with S:=⟨c.aD.toNat,[]⟩,D:=b.D,log:=some b.V} []):=cQ.store v y c7;have J:=O.trans a3;have b4:cu F w t x:=⟨J.keep.then (y.mono λn _ f=>by have f:n=p:=f;rw[f];exact V.1),J.new⟩
  have j4:=O.keep.size;have c8:∀n,G n->¬t n:=λn P l=>by
   rcases h9 n l with k|k
   ·have:=H.aE n k.1;have:=hG n P;omega
   ·exact hY n k P
  have i0:∀n,G n->n≠p:=λn P f=>c8 n P (f▸(v.at' 0).1.1);have b5:=c4.aE;have k1:=c4.len dC;have b6:Row ku 96 x G e9 a1 b.out:=vQ.row (((c4.keep y λn P f=>i0 n P f)).row dC ba);have k2:x.heap.size=h7.heap.size:=e4;rw[a0 (Zq (by simpa using I))];have f8:=Sj b6;refine⟨λc0 a4 w'=>∃(a:Nat) (R:ZN) (e6:Nat->Nat),a4=a/\a<=a1/\c0=a1-a/\bb w' R e6 (mq p (({h with sp:=e,bp:=g,lp:=ZM s}:kp).cells c self) {h with sp:=e,bp:=g,lp:=ZM s} c {X with S:=(⟨c.aD.toNat,[]⟩:au).eB (b.out.take a),D:=b.D,log:=some b.V} [])/\cu t x R w',
   ⟨_,0,t,Q,rfl,Qj _,rfl,f0,cu.refl _ _⟩,?_⟩
  rintro c0 _ _ e7 ⟨a,R,e6,rfl,i,rfl,c9,z⟩;have i1:∀n,G n->¬R n:=λn P l=>by
   rcases z.new n l with k|k
   ·exact c8 n P k
   ·have:=b5 n P;omega
  have d0:=au.nH (b.out.take a) ⟨c.aD.toNat,[]⟩;rw[Qy]at d0;simp only[ZQ]at d0;refine al.dec (λk4=>?_) (λk5=>?_)
  ·obtain⟨m,S⟩:∃m,b.out[a]? =some m:=⟨_,Qq oM⟩
   obtain⟨n,f1,es,ha,k6,k7,i2,xa,xn,xc,rfl,i3,c2⟩:=(b6.keep z.keep c8).el a m S;refine⟨n,f1,ha,oM,oM,ck (es:=aH m xa xn xc) (k:=10) (bg _ _ _ _) rfl (λa4 ht=>by rw[Qx];exact i2 a4 ht) (PA.mk λk8 i4 k9 i5=>aC (bg m xa xn xc) i5 rfl λl0 i6 l3 i7=>λi8 e8=>?_)⟩;have K:ai e7 i8:=(i4.new i6 λn P=>.inr (by have P:n=e7.heap.size:=P;omega)).then e8.keep;have a5:=bb.af c9 bX K;have l4:=z.keep.size;obtain⟨f2,f4,f5⟩:=a5.at' 3;refine⟨p,0,rfl,_,ae (a5.at' 0).2 rfl,ar (bg m xa xn xc) ((e8.keep (S:=λ_=>False)).get i7 id) (PC.ok (uU f2 (i3.af K) (λn P=>⟨by have:=b5 n P;have:=K.size;omega,λl=>i1 n P l.1⟩) c2 (by show((⟨c.aD.toNat,[]⟩:au).eB (b.out.take a)).l.length<_;omega)) ?_)⟩;rintro _ l5 ⟨rfl,F8,f3,f6⟩;have i9:((⟨c.aD.toNat,[]⟩:au).eB (b.out.take (a+1)))=(((⟨c.aD.toNat,[]⟩:au).eB (b.out.take a)).add m).2:=by
    rw[Qw,S];exact au.nI ..
   obtain⟨F9,a6,a7,o,-⟩:=a5.iE bX (k:=3) (G':=F8) (C2:=mq p (({h with sp:=e,bp:=g,lp:=ZM s}:kp).cells c self) {h with sp:=e,bp:=g,lp:=ZM s} c {X with S:=(⟨c.aD.toNat,[]⟩:au).eB (b.out.take (a+1)),D:=b.D,log:=some b.V} []) f6 f3.aE (by rw[i9];exact⟨f3,f4.add c2,(au.UE _ _).trans f5⟩) λa G i j=>by
    rcases a with _|_|_|_|_|_|_|a<;>first|exact j|exact Zz rfl i
   exact⟨_,rfl,_,oM,a+1,F9,a6,an oM,oM,rfl,a7,z.trans ⟨(ai.keep K).then o.keep,λn P=>(o.new n P).imp id λh1=>by have:=K.size;omega⟩⟩
  ·rw[Qz oM]at c9 d0
   exact Cz c9 (A.iE (b4.trans z)) (λf9 m g3 S=>by simp at S) (by show((⟨c.aD.toNat,[]⟩:au).eB b.out).l.length<=_;omega) (κ:=λB w'=>Ok (λB w'=>B= ZH 0/\((⟨c.aD.toNat,[]⟩:au).eB b.out).l.length<=16777216/\∃U q d,cQ w' q d p U c self {X with S:=(⟨c.aD.toNat,[]⟩:au).eB b.out,D:=b.D,log:=some b.V}/\cu F w q w') (.returned B) w')
    λw' q d a8 f7=>Ok.mk ⟨rfl,oM,_,q,d,a8,(b4.trans z).trans f7⟩

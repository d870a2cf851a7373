import Derived.Test.YtkpomgifkloklabGreatDoorKf16
set_option maxHeartbeats 4000000
set_option linter.all false
set_option maxRecDepth 100000
open Go.IntKind renaming wrap→PP
namespace Go.Proofs.YtkpomgifkloklabGreatDoor
open Go.aw
abbrev pX:=List (Int×List ah)
def cW(n:pX):List Int:=n.map (·.1)
def ck(n:pX)(P:List ah):List ah:=(n.map (·.2)).flatten++P
structure cM (D:ak) (A:pX) (no:Int) (l:List ah) (k:Nat):Prop where
 tidy:Tidy D.files
 full:∀x∈A,au D.files (ay x.1)=some (dR (aB x.2))
 last:∃s,au D.files (ay no)=some ⟨aB l,s,true⟩/\(aB (l.take k)).length<=s/\s<=(aB l).length
 kl:k<=l.length
 Xa:au D.files cf=some (dR (bU (cW A++[no])))
 Ah:∀n∈cW A++[no],1<=n/\n<1000000000000
 zj:(cW A++[no]).Pairwise (·<·)
 evs:∀e∈ck A l,e.Ok/\e.aM.length<=64
 many:A.length+1<=64
structure HN (V:dx) (A:pX) (no:Int) (l:List ah):Prop where
 bf:V.bf=cW A++[no]
 bytes:V.bytes=((aB l).length:Nat)
 next:no<V.next/\V.next<=1000000000000
def fA{n:Int}(d:cY (ay n)=true\/0<=n/\n<1000000000000):ay n≠cf/\ay n≠aQ:=by
 have b:cf.data.toList.take 4≠dI:=by decide+kernel
 have c:aQ.data.toList.take 4≠dI:=by decide+kernel
 have P:(ay n).data.toList.take 4=dI\/(ay n).data.toList=[]:=by
  unfold ay;rw[ot];unfold ax;split
  ·exact .inr rfl
  ·exact .inl (by simp[dI])
 refine⟨λa=>?_,λa=>?_⟩
 ·rw[a]at P
  rcases P with P|P
  ·exact b P
  ·revert P;decide+kernel
 ·rw[a]at P
  rcases P with P|P
  ·exact c P
  ·revert P;decide+kernel
def se{a n:Int}(P:0<=a/\a<1000000000000)(b:ay n=ay a):n=a:=JH P.1 P.2 (NS b)
variable{e:Int}{u:List UInt8}{I:List ah}{a c i:Nat}{Z f:UL}{d:bc}{b k:World}{W:bZ}{b4:dx}
def tX(P:0<=e):cY (ay e)=true↔e<1000000000000:=by
 constructor
 ·intro n
  by_cases a:e<1000000000000
  ·exact a
  ·have:ay e=cG []:=by unfold ay ax;rw[Zx (.inr oM)]
   have b:cY (cG [])=false:=by decide+kernel
   rw[this,b]at n;cases n
 ·intro n;exact JI P n
def jQ(n:List ah)(P:Nat):(aB (n.take P)).length<=(aB n).length:=by
 have a:=ZX P n
 conv=>rhs;rw[<-a,gu,QX]
 omega
def Cq(n:pX)(no:Int)(P a:List ah):ck (n++[(no,P)]) a=ck n P++a:=by simp[ck]
section
variable {D E:ak} {A:pX} {no:Int} {l x:List ah} {k j:Nat} {V:dx}
def cM.same(n:cM D A no l k)(c:Tidy E.files)(P:∀a∈cW A++[no],au E.files (ay a)=au D.files (ay a))(d:au E.files cf=au D.files cf):cM E A no l k:=
 ⟨c,λx b=>(P x.1 (ZV _ (Xk.2 ⟨x,b,rfl⟩))).trans (n.full x b),by
  obtain⟨e,f,g⟩:=n.last;exact⟨e,(P no (ZW _ (List.mem_singleton.2 rfl))).trans f,g⟩,n.kl,d.trans n.Xa,n.Ah,n.zj,n.evs,n.many⟩
def cM.files(P:cM D A no l k)(n:E.files=D.files):cM E A no l k:=P.same (by rw[n];exact P.tidy) (λ_ _=>by rw[n]) (by rw[n])
def cM.tZ(n:cM D A no l k):1<=no/\no<1000000000000:=n.Ah no (ZW _ (List.mem_singleton.2 rfl))
def cM.VK(P:cM D A no l k):∀n∈A,ay n.1≠ay no:=λn b c=>by
 have d:=P.tZ;have:=se ⟨oM,d.2⟩ c;have a:=P.zj;rw[List.pairwise_append]at a;have:=a.2.2 n.1 (Xk.2 ⟨n,b,rfl⟩) no (List.mem_singleton.2 rfl);omega
def cM.put(n:cM D A no l k){s b:Nat}(P:E.files=aI D.files (ay no) ⟨aB I,s,true⟩)(e:b<=I.length)(f:(aB (I.take b)).length<=s)(g:s<=(aB I).length)(h:∀a∈I,a.Ok/\a.aM.length<=64):cM E A no I b:=
 ⟨by rw[P];exact n.tidy.aI _ _,λc d=>by rw[P,bB,Zq (by simpa using n.VK c d)];exact n.full c d,⟨s,by rw[P,bB];simp,f,g⟩,e,by
  have:=(fA (n:=no) (.inr (by have:=n.tZ;omega))).1;rw[P,bB,Zq (by simpa using this.symm)];exact n.Xa,n.Ah,n.zj,λa P=>by
  rcases Q6.1 P with F|F
  ·exact n.evs a (ZV _ F)
  ·exact h a F,n.many⟩
def cM.YC(P:cM D A no l k):∀n∈l,n.Ok/\n.aM.length<=64:=λn a=>P.evs n (ZW _ a)
def cM.Mu(n:HN V A no l):V.last=ay no:=by unfold dx.last;rw[n.bf];simp[ay]
def cM.mono(n:cM D A no l k)(P:j<=k):cM D A no l j:=by
 obtain⟨a,b,c,d⟩:=n.last;exact⟨n.tidy,n.full,⟨a,b,Xx (Cr P) c,d⟩,Xx P n.kl,n.Xa,n.Ah,n.zj,n.evs,n.many⟩
def EO(n:cM D A no l k):((D.sync (ay no)).1=0/\cM (D.sync (ay no)).2 A no l l.length)\/((D.sync (ay no)).1≠0/\cM (D.sync (ay no)).2 A no l k):=by
 rcases nN D (ay no)with⟨P,a⟩|⟨P,d,b,a⟩
 ·exact .inr ⟨P,n.files a⟩
 ·obtain⟨e,c,f,g⟩:=n.last
  rw[c]at b;cases b
  exact .inl ⟨P,n.put a (Q4 _) (by rw[List.take_length];exact Q4 _) (Q4 _) n.YC⟩
def Cs(m:Tidy D.files)(o:0<=V.next):((bz V D).1≠0/\(bz V D).2.1=V/\Tidy (bz V D).2.2.files/\∀x,x≠ay V.next->x≠aQ->au (bz V D).2.2.files x=au D.files x)\/
  ((bz V D).1=0/\V.next<1000000000000/\V.bf.length+1<=64/\au D.files (ay V.next)=none/\(bz V D).2.1=⟨V.size,V.bf++[V.next],0,V.next+1⟩/\Tidy (bz V D).2.2.files/\au (bz V D).2.2.files (ay V.next)=some (dR [])/\
   au (bz V D).2.2.files cf=some (dR (bU (V.bf++[V.next])))/\∀x,x≠ay V.next->x≠aQ->x≠cf->au (bz V D).2.2.files x=au D.files x):=by
 unfold bz;dsimp only;rw[show cG (ax V.next)=ay V.next from rfl];rcases lF D (ay V.next)with⟨d,f⟩|⟨d,f,w,p⟩
 ·rw[Zx d]
  exact .inl ⟨d,rfl,by show Tidy (D.create _).2.files;rw[f];exact m,λx _ _=>by show au (D.create (ay V.next)).2.files x=_;rw[f]⟩
 have q:=(tX o).1 f;obtain⟨y,nt⟩:=fA (n:=V.next) (.inr ⟨o,q⟩);rw[Zq (show¬(D.create (ay V.next)).1≠0 by simpa using d)];have g:tY (ay V.next) D (D.create (ay V.next)).2:=(tY.refl m).put p;have r:au (D.create (ay V.next)).2.files (ay V.next)=some ⟨[],0,false⟩:=by rw[p,bB];simp
 generalize(D.create (ay V.next)).2=P at g r;unfold mZ;dsimp only;rw[show cG (ax V.next)=ay V.next from rfl];have a:∀{F:ak},Tidy F.files->(∀x,x≠ay V.next->x≠aQ->au F.files x=au D.files x)->Tidy (F.delete (ay V.next)).2.files/\∀x,x≠ay V.next->x≠aQ->au (F.delete (ay V.next)).2.files x=au D.files x:=by
  intro F l s;rcases jB F (ay V.next)with e|e
  ·rw[e];exact⟨l,s⟩
  ·rw[e];exact⟨l.bQ _,λx n b=>by rw[gh l,Zq (by simpa using n)];exact s x n b⟩
 rcases nN P (ay V.next)with⟨h,c⟩|⟨h,E,t,c⟩
 ·rw[Zx h]
  have:=a (F:=(P.sync (ay V.next)).2) (by rw[c];exact g.1) λx n _=>by rw[c];exact g.2 x n
  exact .inl ⟨h,rfl,this⟩
 rw[r]at t;cases t
 have i:tY (ay V.next) D (P.sync (ay V.next)).2:=g.put c;have u:au (P.sync (ay V.next)).2.files (ay V.next)=some (dR []):=by rw[c,bB];simp
 rw[Zq (show¬(P.sync (ay V.next)).1≠0 by simpa using h)];generalize(P.sync (ay V.next)).2=z at i u;rcases Lw i.1 (V.bf++[V.next])with⟨j,k⟩|⟨j,k,A,B,v⟩
 ·rw[Zx j]
  have:=a (F:=(bA z (V.bf++[V.next])).2) k.1 λx n b=>(k.2 x b).trans (i.2 x n);exact .inl ⟨j,rfl,this⟩
 ·rw[Zq (by simpa using j)]
  refine .inr ⟨rfl,q,by simpa using k,w,?_,A,(v _ nt y).trans u,B,λx n b C=>(v x b C).trans (i.2 x n)⟩;rw[wrap_i64 cw]
def cM.bz(b:cM D A no l l.length)(i:HN V A no l):((bz V D).1≠0/\(bz V D).2.1=V/\cM (bz V D).2.2 A no l l.length)\/
  ((bz V D).1=0/\(bz V D).2.1.size=V.size/\cM (bz V D).2.2 (A++[(no,l)]) V.next [] 0/\HN (bz V D).2.1 (A++[(no,l)]) V.next []/\(bz V D).2.1.next=V.next+1):=by
 have H:=b.tZ;have I:=i.next;have q:∀n∈cW A++[no],n<V.next:=λn a=>by
  rcases Q6.1 a with P|P
  ·have j:=b.zj
   rw[List.pairwise_append]at j;have:=j.2.2 n P no (List.mem_singleton.2 rfl);omega
  ·have:=List.mem_singleton.1 P;omega
 have k:∀n∈cW A++[no],ay n≠ay V.next:=λn a d=>by
  have P:=b.Ah n a;have j:=q n a;have:=se (a:=n) ⟨oM,P.2⟩ d.symm;omega
 have e:∀n∈cW A++[no],ay n≠cf/\ay n≠aQ:=λn a=>fA (.inr (by have:=b.Ah n a;omega));have u:cf≠ay V.next:=λd=>by
  by_cases J:V.next<1000000000000
  ·exact(fA (n:=V.next) (.inr oM)).1 d.symm
  ·have v:ay V.next=cG []:=by unfold ay ax;rw[Zx (.inr oM)]
   rw[v]at d
   revert d;decide+kernel
 rcases Cs (V:=V) b.tidy oM with⟨m,r,g,o⟩|⟨m,r,g,o,f,w,x,s,t⟩
 ·exact .inl ⟨m,r,b.same g (λn a=>o _ (k n a) (e n a).2) (o _ u λd=>Nw d.symm)⟩
 ·rw[i.bf]at g s
  have y:A.length+1+1<=64:=by simpa[cW]using g
  have h:cW (A++[(no,l)])=cW A++[no]:=by simp[cW]
  refine .inr ⟨m,by rw[f],⟨w,λp z=>?_,⟨0,x,by simp[aB],Qj _⟩,Q4 _,by rw[h];exact s,?_,?_,by rw[Cq,List.append_nil];exact b.evs,by simpa using y⟩,⟨by rw[f,h,i.bf],by rw[f];simp[aB],by rw[f];simp only;omega⟩,by rw[f]⟩
  ·rcases Q6.1 z with P|P
   ·have c:p.1∈cW A++[no]:=ZV _ (Xk.2 ⟨p,P,rfl⟩)
    rw[t _ (k _ c) (e _ c).2 (e _ c).1];exact b.full p P
   ·rw[List.mem_singleton]at P
    subst P;have c:no∈cW A++[no]:=ZW _ (List.mem_singleton.2 rfl);obtain⟨B,C,E,K⟩:=b.last;rw[List.take_length]at E;have F:B=(aB l).length:=oM
    show au _ (ay no)=_;rw[t _ (k _ c) (e _ c).2 (e _ c).1,C,F];rfl
  ·rw[h]
   intro n a;rcases Q6.1 a with P|P
   ·exact b.Ah n P
   ·have:=List.mem_singleton.1 P;omega
  ·rw[h,List.pairwise_append]
   exact⟨b.zj,List.pairwise_singleton _ _,λn a L c=>by have:=List.mem_singleton.1 c;have:=q n a;omega⟩
def cM.begin(c:cM D A no l k)(P:HN V A no l):((aN V D).1≠0/\(aN V D).2.1=V/\cM (aN V D).2.2 A no l k)\/
  ((aN V D).1=0/\(aN V D).2.1.size=V.size/\cM (aN V D).2.2 (A++[(no,l)]) V.next [] 0/\HN (aN V D).2.1 (A++[(no,l)]) V.next []/\(aN V D).2.1.next=V.next+1):=by
 have d:¬V.bf=[]:=by rw[P.bf];simp
 have e:aN V D=if(D.sync (ay no)).1≠0 then((D.sync (ay no)).1,V,(D.sync (ay no)).2)else Go.Proofs.YtkpomgifkloklabGreatDoor.bz V (D.sync (ay no)).2:=by
  unfold aN;rw[Zq d,cM.Mu P]
 rw[e];rcases EO c with⟨n,a⟩|⟨n,a⟩
 ·rw[Zq (by simpa using n)]
  rcases a.bz P with⟨f,g,h⟩|b
  ·exact .inl ⟨f,g,h.mono c.kl⟩
  ·exact .inr b
 ·rw[Zx n];exact .inl ⟨n,rfl,a⟩
end
def bO(n:List ah):List UInt8×Int:=if n.any eQ then([],3)else(aB n,0)
def LN(V:Laid b)(C:Row jh 96 b f d a I)(W:∀n,f n->n<b.heap.size)(hl:I.length<=20000000):
  be 113 #[.slice d a c] b (Ok λX q=>∃E F H l,X= .tuple #[.slice E F H,WP (bO I).2]/\aT gj 5 l q E F H (bO I).1/\ai b q/\∀n,l n->b.heap.size<=n):=by
 have hn:=C.len;refine xy ⟨λJ K L N O q=>∃(P:Nat) (l:UL),O=P/\P<=a/\J=a-P/\(∀e∈I.take P,e.Ok/\e.aM.length<=64)/\(aB (I.take P)).length<=675*P/\aT gj 5 l q K L N (aB (I.take P))/\ai b q/\∀n,l n->b.heap.size<=n,
  ⟨_,0,λ_=>False,rfl,Qj _,rfl,sM,by simp[aB],aT.nil b,aj.refl _,λ_ u=>u.elim⟩,?_⟩
 rintro J K L N O _ Y ⟨P,l,rfl,hj,rfl,v,Z,o,m,w⟩;refine al.dec (λa9=>?_) (λb0=>?_)
 ·obtain⟨n,x,e,es,rfl,_,_,Q,j,a1,n1,c1,rfl,hd,s⟩:=(C.af m).AV (i:=P) oM
  have g:=λi (hi:i<10)=>j i hi;refine⟨n,x,rfl,oM,oM,_,_,_,_,_,_,_,_,_,_,_,_,g 0 dC,g 1 dC,g 2 dC,g 3 dC,g 4 dC,g 5 dC,g 6 dC,g 7 dC,g 8 dC,g 9 dC,PA.mk λw2 k2 s2 g2=>?_⟩;refine storeAll (aF e a1 n1 c1) g2 rfl λw3 k3 s3 h=>?_;have p:ai Y w3:=k2.new k3 λn k=>.inr oM;refine⟨_,_,_,_,_,_,_,_,_,_,_,_,ae h rfl,ae h rfl,ae h rfl,ae h rfl,ae h rfl,ae h rfl,ae h rfl,ae h rfl,ae h rfl,ae h rfl,?_⟩;refine PC.ok (Ex (V.af (m.then p)) (hd.af p) s λn k=>by have:=W n k;have:=(m.then p).size;omega) ?_;rintro _ R ⟨a4,n4,c4,F4,rfl,r,S,T⟩
  by_cases t:e.aM.length<=64
  ·have y:=q_ s t
   rw[y]at r⊢;have b1:=Nx s t;refine⟨_,_,_,_,rfl,al.eP (λj=>Zz rfl j) (λ_=>?_)⟩;have z:=p.then S;have a0:Row gj 1 R F4 a4 n4 (nX e):=r.row (bytes:=1) dC (by unfold aP;dsimp only;omega);have b2:=z.size;have b3:=p.size;refine Al (o.af z) tQ a0 (λe=>r.OY e) (λn k=>⟨r.aE n k,λj=>by have:=o.aE n (o.self n j);have:=T n k;omega⟩) ce (by unfold maxLen;omega) λb4 c5 w5 F5 a3 a6 a7 _=>?_;have A:I.take (P+1)=I.take P++[e]:=by rw[Qw,Q];rfl
   refine⟨_,_,_,rfl,a-(P+1),oM,P+1,F5,an oM,oM,rfl,?_,?_,?_,(m.then z).new a6 λn k=>.inr (by have:=w n (o.self n k);omega),?_⟩
   ·rw[A]
    intro a2 B;rcases Q6.1 B with M|M
    ·exact v a2 M
    ·simp at M;subst M;exact⟨s,t⟩
   ·rw[A,oX];simp;omega
   ·rw[A,oX];exact a3
   ·intro n k
    have:=m.size;rcases a7 n k with M|M|M
    ·exact w n M
    ·have:=T n M;omega
    ·omega
  ·have y:=yv t
   rw[y]at r⊢;refine⟨_,_,_,_,rfl,al.eP (λ_=>?_) (λj=>Zz j dC)⟩;have a5:I.any eQ=true:=List.any_eq_true.2 ⟨e,QZ Q,by unfold eQ;simp;omega⟩;rw[show bO I=([],3) by unfold bO;rw[Zx a5]];exact Ok.mk ⟨none,0,0,λ_=>False,rfl,aT.nil R,(m.then p).then S,λ_ u=>u.elim⟩
 ·obtain rfl:P=a:=oM
  rw[Qz oM]at v Z o;have a8:I.any eQ=false:=by
   rw[<-Bool.not_eq_true];intro j;obtain⟨e,he,U⟩:=List.any_eq_true.1 j;have:=(v e he).2;unfold eQ at U;simp at U;omega
  rw[show bO I=(aB I,0) by unfold bO;rw[Zq (by simp[a8])]];exact Ok.mk ⟨_,_,_,l,rfl,o,m,w⟩
def bE(no:Int)(d:List UInt8)(D:ak):Int×ak:=
 let n:=cG (ax no)
 let P:=D.create n
 if P.1≠0 then(P.1,P.2)else
 let a:=P.2.append n d
 if a.1≠0 then(a.1,(a.2.delete n).2)else
 let b:=a.2.sync n
 if b.1≠0 then(b.1,(b.2.delete n).2)else
 let c:=bA b.2 [no]
 (c.1,if c.1≠0 then(c.2.delete n).2 else c.2)
def OZ{D:ak}{no:Int}(hL:Laid b)(L:a_ b k a D f)(R:aK no)(e:Row gj 1 k Z d c u)(c0:d=none->c=0/\i=0)(b2:∀n,Z n->f n):
  be 114 #[RK a,WP no,.slice d c i] k (Ok (nY b k a f (bE no u D))):=by
 have e2:=L.gr.size;have S:∀n,f n->n<k.heap.size:=by obtain⟨a3,f1,f2,T,U⟩:=L;exact U
 refine zv (PA.mk λx k1 s1 g1=>PA.mk λw2 V s2 g2=>PC.ok (j_ (hL.af ((L.gr.then k1).then V)) R) ?_);rintro _ W ⟨rfl,M⟩;have z3:=M.size;refine⟨_,rfl,PA.mk λw4 X s4 g4=>PS.mk g4 sM λY k5 s5 g5=>?_⟩
 let s:UL:=λn=>f n\/(n=k.heap.size\/n=x.heap.size\/n=W.heap.size)
 have b3:ai k Y:=((((k1.then V).then M).then X)).new k5 λn e=>.inr oM;have d0:a_ b Y a D s:=L.add b3 λn e=>by omega
 let y:World->Int->Prop:=λh l=>h.heap[k.heap.size]? =some (.cells #[RK a] 109 (0,0))/\h.heap[x.heap.size]? =some (.cells #[WP l] 35 (0,0))/\h.heap[W.heap.size]? =some (.cells #[.string (cG (ax no))] 9 (0,0))
 have C5:y Y 0:=⟨k5.get (X.get (M.get (V.get g1 id) id) id) oM,k5.get (X.get (M.get g2 id) id) oM,g5⟩
 have g:∀{h o:World} {l:Int},y h l->aj (dT s) h o->y o l:=λm t=>
  ⟨t.get m.1 λp=>p (.inr (.inl rfl)),t.get m.2.1 λp=>p (.inr (.inr (.inl rfl))),t.get m.2.2 λp=>p (.inr (.inr (.inr rfl)))⟩
 have H:∀{h o:World},aj (dT f) k h->aj (dT s) h o->aj (dT f) k o:=λd n=>d.then (n.mono λn _ e q=>e (.inl q));have P:∀{h:World} {l B:Int} {v:ak} {κ:ba},y h l->a_ b h a v s->aj (dT f) k h->(∀o,y o B->a_ b o a v s->aj (dT f) k o->aj (·=x.heap.size) h o->κ o)->PS h ⟨x.heap.size,0,none⟩ (WP B) κ:=by
  intro h l B v κ m hN t a0;have h1:=aA m.2.1;refine PS.mk m.2.1 sM λo z e3 d1=>a0 o ⟨z.get m.1 oM,d1,z.get m.2.2 oM⟩ ?_ (t.then (z.mono λn _ e q=>by have:=S n q;omega)) z;obtain⟨a3,f1,f2,T,U⟩:=hN;exact⟨a3,f1.keep z λn e l=>(T n e).2 (.inr (.inr (.inl l))),f2.new z λn e=>.inr oM,T,λn e=>Qk (U n e) z.size⟩
 have j:∀{I:Int×ak} (l:Int) (v:ak) (h:World),a_ b h a v s->aj (dT f) k h->y h l->I=(l,if l≠0 then(v.delete (cG (ax no))).2 else v)->
   Lv LL (λb4=>∃b5:Int,b4.cell? ⟨x.heap.size,0,none⟩=some (WP b5)/\Ok (nY b k a f I) (.returned (WP b5)) b4) (λch h=>Ok (nY b k a f I) (.panicked ch) h)
    ([{target:=.fn (.func 179) #[RK x.heap.size,RK k.heap.size,RK W.heap.size],args:= #[]}]:List Deferred) .returning h:=by
  intro I l v h p t m hr;refine Lv.one sM kR (CallsD.mono (uf (R:=λB J=>B= .returned (.tuple #[])/\∃b6:Int,J.cell? ⟨x.heap.size,0,none⟩=some (WP b6)/\Ok (nY b k a f I) (.returned (WP b6)) J) ⟨_,ae m.2.1 rfl,al.eP (λr=>⟨_,ae m.1 rfl,_,ae m.2.2 rfl,PC.ok p.delete ?_⟩) (λA=>⟨rfl,_,ae m.2.1 rfl,Ok.mk ?_⟩)⟩) ?_)
  ·rintro _ wb ⟨rfl,d2,kb⟩
   have d3:=g m kb;refine⟨_,rfl,rfl,_,ae d3.2.1 rfl,Ok.mk ?_⟩;rw[hr,Zx r];exact⟨rfl,d2.mono λn e=>.inl e,H t kb⟩
  ·rw[hr,Zq (by simpa using A)]
   exact⟨rfl,p.mono λn e=>.inl e,t⟩
  ·rintro B u' J ⟨rfl,rfl,S⟩
   exact Lv.ret rfl S
 refine⟨_,ae C5.1 rfl,_,ae C5.2.2 rfl,PC.ok d0.create ?_⟩;rintro _ w6 ⟨rfl,b7,k6⟩;have C6:=g C5 k6;have d4:=H (ai.keep b3) k6;have hW:bE no u D=if(D.create (cG (ax no))).1≠0 then((D.create (cG (ax no))).1,(D.create (cG (ax no))).2)else
   if((D.create (cG (ax no))).2.append (cG (ax no)) u).1≠0 then(((D.create (cG (ax no))).2.append (cG (ax no)) u).1,(((D.create (cG (ax no))).2.append (cG (ax no)) u).2.delete (cG (ax no))).2)else
   if((((D.create (cG (ax no))).2.append (cG (ax no)) u).2).sync (cG (ax no))).1≠0 then(((((D.create (cG (ax no))).2.append (cG (ax no)) u).2).sync (cG (ax no))).1,(((((D.create (cG (ax no))).2.append (cG (ax no)) u).2).sync (cG (ax no))).2.delete (cG (ax no))).2)else
   ((bA ((((D.create (cG (ax no))).2.append (cG (ax no)) u).2).sync (cG (ax no))).2 [no]).1,if(bA ((((D.create (cG (ax no))).2.append (cG (ax no)) u).2).sync (cG (ax no))).2 [no]).1≠0 then((bA ((((D.create (cG (ax no))).2.append (cG (ax no)) u).2).sync (cG (ax no))).2 [no]).2.delete (cG (ax no))).2 else(bA ((((D.create (cG (ax no))).2.append (cG (ax no)) u).2).sync (cG (ax no))).2 [no]).2):=rfl
 rw[hW];generalize D.create (cG (ax no))=cr at b7⊢;refine⟨_,rfl,P C6 b7 d4 λJ C b8 a5 k7=>⟨_,ae C.2.1 rfl,al.eP (λr=>?_) (λA=>?_)⟩⟩
 ·refine⟨_,ae C.2.1 rfl,P C b8 a5 λw8 C8 N a6 k8=>⟨_,ae C8.2.1 rfl,Ok.mk ?_⟩⟩
  rw[Zx r];exact⟨rfl,N.mono λn e=>.inl e,a6⟩
 rw[Zq (by simpa using A)];have d5:Row gj 1 J Z d c u:=e.keep a5 λn e p=>p (b2 n e);refine⟨_,ae C.1 rfl,_,ae C.2.2 rfl,PC.ok (b8.append d5 c0 λn e=>.inr (.inl (b2 n e))) ?_⟩;rintro _ w8 ⟨rfl,N,k8⟩;have C8:=g C k8;have a6:=H a5 k8;generalize cr.2.append (cG (ax no)) u=ap at N⊢;refine⟨_,rfl,P C8 N a6 λw9 E b9 c1 k9=>⟨_,ae E.2.1 rfl,al.eP (λr=>?_) (λA=>?_)⟩⟩
 ·refine⟨_,ae E.2.1 rfl,P E b9 c1 λc2 a7 O a1 a8=>?_⟩
  rw[Zx r];exact j _ _ c2 O a1 a7 (by rw[Zx r])
 rw[Zq (by simpa using A)];refine⟨_,ae E.1 rfl,_,ae E.2.2 rfl,PC.ok b9.sync ?_⟩;rintro _ c2 ⟨rfl,O,a8⟩;have a7:=g E a8;have a1:=H c1 a8;generalize ap.2.sync (cG (ax no))=sy at O⊢;refine⟨_,rfl,P a7 O a1 λa9 K a4 b1 e4=>⟨_,ae K.2.1 rfl,al.eP (λr=>?_) (λA=>?_)⟩⟩
 ·refine⟨_,ae K.2.1 rfl,P K a4 b1 λF b0 a2 c3 Q=>?_⟩
  rw[Zx r];exact j _ _ F a2 c3 b0 (by rw[Zx r])
 rw[Zq (by simpa using A)];refine⟨_,ae K.1 rfl,PA.mk λF Q e5 c4=>?_⟩;have a2:a_ b F a sy.2 (λn=>s n\/n=a9.heap.size):=a4.add Q λn e=>by subst e;exact⟨Q4 _,aA c4⟩
 have c5:Row aO 8 F (·=a9.heap.size) (UV a9.heap.size) 1 [no]:=Row.lit c4 [no] rfl (λc6 q=>by simp at q;subst q;exact R) (by unfold aP;simp);refine PC.ok (a2.bA hL.p_ c5 (λc6 q=>by simp at q;subst q;exact R) λn e=>.inr (.inr e)) ?_;rintro _ d6 ⟨rfl,c7,d7⟩;have w:aj (dT s) F d6:=d7.mono λn _ e hy=>e (.inl hy);have b0:y F sy.1:=g K (ai.keep Q);have d8:=g b0 w;have c8:=H (b1.af Q) w;exact⟨_,rfl,P d8 (c7.mono λn e=>.inl e) c8 λd9 e0 c9 e1 e6=>j _ _ d9 c9 e1 e0 rfl⟩
def jE:List Int->ak->ak
 |[],D=>D
 |no::n,D=>if(D.delete (ay no)).1≠0 then(D.delete (ay no)).2 else jE n (D.delete (ay no)).2
def aS(n:dx)(D:ak)(P:List ah)(a:Int):oY:=
 if(bO P).2≠0 then⟨(bO P).2,[],n,D⟩else
 if(bE n.next (bO P).1 D).1≠0 then⟨(bE n.next (bO P).1 D).1,[],n,(bE n.next (bO P).1 D).2⟩else
 aU (jE n.bf (bE n.next (bO P).1 D).2) a
def LO(c g:World)(d h:Nat)(i:dx)(a:UL)(P:oY)(e:Value)(b:World):Prop:=
 ∃G,jt b d h G i/\(∀n,G n->c.heap.size<=n/\¬a n)/\aj (dT a) g b/\
  ((P.no≠0/\e= .tuple #[.pointer none,WP P.no]/\a_ c b d P.D (λn=>a n\/G n))\/
   (P.no=0/\∃f,e= .tuple #[RK f,WP 0]/\cF c b d f P.V P.D (λn=>a n\/G n)))
def IU{D:ak}{U a2:Nat}(z:Laid b)(V:cF b k a c b4 D f)(W:Row jh 96 k Z d U I)(b3:∀n,Z n->n<k.heap.size)(hl:I.length<=20000000):
  be 67 #[RK a,RK c,.slice d U a2,WP e] k (Ok (LO b k a c b4 f (aS b4 D I e))):=by
 obtain⟨G,H,u,A⟩:=id V;have c0:=u.many;refine vm (PC.ok (LN (z.af V.gr) W b3 hl) ?_);rintro _ w1 ⟨a4,n1,c1,F1,rfl,J,p,b5⟩;have hz:∀n,(f n\/G n)->n<k.heap.size:=by obtain⟨c4,f1,f2,f3,f4⟩:=H;exact f4
 refine⟨_,_,_,_,rfl,al.eP (λh=>Ok.mk ?_) (λq=>PC.ok (RM (u.af p)) ?_)⟩
 ·rw[show aS b4 D I e=⟨(bO I).2,[],b4,D⟩ by unfold aS;rw[Zx h]]
  exact⟨G,u.af p,A,ai.keep p,.inl ⟨h,rfl,H.af p⟩⟩
 rintro _ _ ⟨rfl,rfl⟩;have b6:a_ b w1 a D (λn=>(f n\/G n)\/F1 n):=H.add p λn P=>⟨b5 n P,J.aE n P⟩
 have d1:(bO I).1.length<=13500000000:=by
  unfold bO;split
  ·simp
  ·rename_i b8
   have:∀m∈I,m.Ok/\m.aM.length<=64:=λm X=>by
    obtain⟨i,hi⟩:=List.mem_iff_getElem?.1 X;obtain⟨n,v,es,-,-,-,-,a4,n1,c1,-,-,b9⟩:=W.el i m hi;refine⟨b9,?_⟩;have:¬eQ m=true:=λK=>b8 (List.any_eq_true.2 ⟨m,X,K⟩);unfold eQ at this;simp at this;omega
   have:=IV this;show(aB I).length<=_;omega
 refine⟨_,rfl,PC.ok (OZ z b6 u.tj (J.row (bytes:=1) dC ce) (λm=>J.OY m) λn P=>.inr P) ?_⟩;rintro _ Y ⟨rfl,c2,k2⟩;have L:a_ b Y a (bE b4.next (bO I).1 D).2 (λn=>f n\/G n):=c2.mono λn P=>.inl P;have M:=(u.af p).keep k2 λn P j=>j (.inl (.inr P));have a6:aj (dT f) k Y:=(ai.keep p).then (k2.mono λn _ P l=>P (.inl (.inl l)));have hC:aS b4 D I e=if(bE b4.next (bO I).1 D).1≠0 then⟨(bE b4.next (bO I).1 D).1,[],b4,(bE b4.next (bO I).1 D).2⟩else aU (jE b4.bf (bE b4.next (bO I).1 D).2) e:=by
  unfold aS;rw[Zq (by simpa using q)]
 rw[hC];generalize bE b4.next (bO I).1 D=w at L⊢;refine⟨_,rfl,al.eP (λh=>Ok.mk ?_) (λq=>?_)⟩
 ·rw[Zx h]
  exact⟨G,M,A,a6,.inl ⟨h,rfl,L⟩⟩
 rw[Zq (by simpa using q)];refine⟨λo=>a_ b o a (jE b4.bf w.2) (λn=>f n\/G n)/\jt o a c G b4/\aj (dT f) k o,PC.ok (GQ M) ?_,?_⟩
 ·rintro _ w3 ⟨a3,s,c3,B,rfl,N,O,c5⟩
  have d2:=N.len dC;have Q:a_ b w3 a w.2 (λn=>(f n\/G n)\/B n):=L.add O λn P=>⟨c5 n P,N.aE n P⟩
  refine⟨_,_,_,rfl,λa0 a1 o=>∃(g:Nat) (r:ak),a1=g/\g<=s/\a0=s-g/\jE b4.bf w.2=jE (b4.bf.drop g) r/\a_ b o a r (λn=>(f n\/G n)\/B n)/\aT aO 3 B o a3 s c3 b4.bf/\jt o a c G b4/\aj (dT f) k o,
   ⟨_,0,w.2,rfl,Qj _,rfl,rfl,Q,N,M.af O,a6.af O⟩,?_⟩
  rintro a0 a1 _ w4 ⟨g,r,rfl,hj,rfl,C,x,R,a7,a8⟩;refine al.dec (λd3=>?_) (λd4=>?_)
  ·have c6:Row aO 8 w4 B a3 s b4.bf:=R.row dC ce
   obtain⟨n,v,t,rfl,l,c7,K⟩:=c6.ni (i:=g) oM;refine⟨n,v,rfl,oM,oM,t,K,PC.ok (j_ (z.af x.gr) c7) ?_⟩;rintro _ w5 ⟨rfl,E⟩;refine⟨_,rfl,PC.ok (x.af E).delete ?_⟩;rintro _ w6 ⟨rfl,S,T⟩;have a5:b4.bf.drop g=t::b4.bf.drop (g+1):=by
    obtain⟨c8,rfl⟩:=Qv.1 l;exact X4 c8
   rw[a5]at C;have F:jE b4.bf w.2=if(r.delete (cG (ax t))).1≠0 then(r.delete (cG (ax t))).2 else jE (b4.bf.drop (g+1)) (r.delete (cG (ax t))).2:=C
   have a9:=(a7.af E).keep T λn P j=>j (.inl (.inr P));have b0:aj (dT f) k w6:=(a8.af E).then (T.mono λn _ P l=>P (.inl (.inl l)));have c9:=(R.af E).keep T λn P j=>j (.inr P);generalize r.delete (cG (ax t))=b7 at F S⊢;refine⟨_,rfl,al.eP (λh=>?_) (λq=>?_)⟩
   ·rw[F,Zx h]
    exact⟨S.mono λn P=>.inl P,a9,b0⟩
   ·rw[Zq (by simpa using q)]at F
    exact⟨s-(g+1),oM,g+1,b7.2,an oM,oM,rfl,F,S,c9,a9,b0⟩
  ·obtain rfl:g=s:=oM
   rw[List.drop_of_length_le oM]at C;rw[C];exact⟨x.mono λn P=>.inl P,a7,a8⟩
 ·rintro _ w3 ⟨Q,b1,b2⟩
  refine PC.ok (IW (size:=e) z Q) ?_;rintro _ w4 (⟨h,rfl,x,y⟩|⟨q,q2,d5,n4,d6,G4,rfl,R,d0,y,-,-,-⟩)
  ·exact⟨_,_,_,_,_,rfl,Ok.mk ⟨G,b1.keep y λn P j=>j (.inr P),A,b2.then (y.mono λn _ P l=>P (.inl l)),.inl ⟨h,rfl,x⟩⟩⟩
  ·exact⟨_,_,_,_,_,rfl,Ok.mk ⟨G,b1.keep y λn P j=>j (.inr P),A,b2.then (y.mono λn _ P l=>P (.inl l)),.inr ⟨q,q2,rfl,d0.mono λn P=>.inl P⟩⟩⟩
def qM{l:List ah}(P:∀n∈l,n.Ok/\n.aM.length<=64):bG (aB l)=(l,(aB l).length):=by
 have:=yK P [];rw[List.append_nil,rL]at this;simpa using this
def EY(n:List ah)(P:Nat):(aB n).take (aB (n.take P)).length=aB (n.take P):=by
 conv=>lhs;rw[<-ZX P n,gu]
 rw[show(List.take P (List.take P n++List.drop P n))=n.take P by rw[ZX]];exact List.take_left
def xU(n:0<=e/\e<1000000000000):gV (ay e)=(e,true):=by
 unfold gV ay;rw[ot,pw n.1 n.2];simp;omega
def UO(n:Int)(P:ByteArray):n<=eI n P:=by unfold eI;split<;>omega
def NT:∀(P:List ByteArray) (n:Int),n<=P.foldl eI n
 |[],n=>Int.le_refl n
 |s::P,n=>Int.le_trans (UO n s) (NT P _)
def JJ:∀(n:List ByteArray) (b:Int) {P:ByteArray},P∈n->(gV P).2=true->(gV P).1+1<=n.foldl eI b
 |d::n,b,P,a,c=>by
  rcases Q2.1 a with rfl|a
  ·refine Int.le_trans ?_ (NT n _)
   unfold eI;rw[Zx c];omega
  ·exact JJ n _ a c
def Jp{D:ak}(n:0<=e/\e<1000000000000)(a:(au D.files (ay e)).isSome=true):e<ir D:=by
 have P:=JJ D.list 1 (EZ.2 a) (by rw[xU n]);rw[xU n]at P;unfold ir tA;simp only at P;omega
section
variable {D E:ak} {A:pX} {no:Int} {l x:List ah} {k j n s:Nat} {V:dx}
def Jr(A:pX)(k:Nat):Nat:=((A.map (·.2)).flatten).length+k
def XT(n:Int)(A:pX):Prop:=∀P∈A,n<=((aB P.2).length:Nat)
def Js(h:cM D A no l k)(i:HN V A no l)(I:∀c∈x,c.Ok)(T:x.length<=20000000)(J:D.Ok)(m:XT V.size A):
  ∃P a b d,cM (aG V D x).2.2 P a b d/\HN (aG V D x).2.1 P a b/\Jr A k<=Jr P d/\ck P b=(if(aG V D x).1=0 then ck A l++x else ck A l)/\(aG V D x).2.1.size=V.size/\XT V.size P/\
   ((P=A/\a=no/\(aG V D x).2.1.next=V.next)\/(P=A++[(no,l)]/\a=V.next/\(aG V D x).2.1.next=V.next+1)):=by
 unfold aG
 by_cases u:x.any eQ=true
 ·rw[Zx u]
  exact⟨A,no,l,k,h,i,Q4 _,rfl,rfl,m,.inl ⟨rfl,rfl,rfl⟩⟩
 rw[Zq u]
 by_cases v:x=[]
 ·rw[Zx v]
  exact⟨A,no,l,k,h,i,Q4 _,by rw[Zx rfl,v,List.append_nil],rfl,m,.inl ⟨rfl,rfl,rfl⟩⟩
 rw[Zq v];have B:∀c∈x,c.Ok/\c.aM.length<=64:=λc o=>⟨I c o,by
  have:¬eQ c=true:=λf=>u (List.any_eq_true.2 ⟨c,o,f⟩);unfold eQ at this;simp at this;omega⟩
 have U:=IV B;have K:(aB l).length<=262144:=by
  obtain⟨s,w,_⟩:=h.last;exact J.len (cz w)
 have g:∀(n:Int×dx×ak) (P:pX) (a:Int) (b:List ah) (d:Nat),n.1=0->cM n.2.2 P a b d->HN n.2.1 P a b->(aB b).length<=262144->Jr A k<=Jr P d->ck P b=ck A l->n.2.1.size=V.size->XT V.size P->
   ((P=A/\a=no/\n.2.1.next=V.next)\/(P=A++[(no,l)]/\a=V.next/\n.2.1.next=V.next+1))->
   ∃P a b d,cM (if n.1≠0 then n else if(n.2.2.append n.2.1.last (aB x)).1≠0 then((n.2.2.append n.2.1.last (aB x)).1,n.2.1,(n.2.2.append n.2.1.last (aB x)).2)else(0,⟨n.2.1.size,n.2.1.bf,PP .i64 (n.2.1.bytes+((aB x).length:Nat)),n.2.1.next⟩,(n.2.2.append n.2.1.last (aB x)).2)).2.2 P a b d/\
    HN (if n.1≠0 then n else if(n.2.2.append n.2.1.last (aB x)).1≠0 then((n.2.2.append n.2.1.last (aB x)).1,n.2.1,(n.2.2.append n.2.1.last (aB x)).2)else(0,⟨n.2.1.size,n.2.1.bf,PP .i64 (n.2.1.bytes+((aB x).length:Nat)),n.2.1.next⟩,(n.2.2.append n.2.1.last (aB x)).2)).2.1 P a b/\Jr A k<=Jr P d/\
    ck P b=(if(if n.1≠0 then n else if(n.2.2.append n.2.1.last (aB x)).1≠0 then((n.2.2.append n.2.1.last (aB x)).1,n.2.1,(n.2.2.append n.2.1.last (aB x)).2)else(0,⟨n.2.1.size,n.2.1.bf,PP .i64 (n.2.1.bytes+((aB x).length:Nat)),n.2.1.next⟩,(n.2.2.append n.2.1.last (aB x)).2)).1=0 then ck A l++x else ck A l)/\
    (if n.1≠0 then n else if(n.2.2.append n.2.1.last (aB x)).1≠0 then((n.2.2.append n.2.1.last (aB x)).1,n.2.1,(n.2.2.append n.2.1.last (aB x)).2)else(0,⟨n.2.1.size,n.2.1.bf,PP .i64 (n.2.1.bytes+((aB x).length:Nat)),n.2.1.next⟩,(n.2.2.append n.2.1.last (aB x)).2)).2.1.size=V.size/\XT V.size P/\
    ((P=A/\a=no/\(if n.1≠0 then n else if(n.2.2.append n.2.1.last (aB x)).1≠0 then((n.2.2.append n.2.1.last (aB x)).1,n.2.1,(n.2.2.append n.2.1.last (aB x)).2)else(0,⟨n.2.1.size,n.2.1.bf,PP .i64 (n.2.1.bytes+((aB x).length:Nat)),n.2.1.next⟩,(n.2.2.append n.2.1.last (aB x)).2)).2.1.next=V.next)\/
     (P=A++[(no,l)]/\a=V.next/\(if n.1≠0 then n else if(n.2.2.append n.2.1.last (aB x)).1≠0 then((n.2.2.append n.2.1.last (aB x)).1,n.2.1,(n.2.2.append n.2.1.last (aB x)).2)else(0,⟨n.2.1.size,n.2.1.bf,PP .i64 (n.2.1.bytes+((aB x).length:Nat)),n.2.1.next⟩,(n.2.2.append n.2.1.last (aB x)).2)).2.1.next=V.next+1)):=by
  intro n P a b d L j e W C o E F f;rw[Zq (by simpa using L)];rw[cM.Mu e];rcases oJ n.2.2 (ay a) (aB x)with⟨r,y⟩|⟨r,X,p,y⟩
  ·rw[Zx r]
   exact⟨P,a,b,d,j.files y,e,C,by rw[Zq r];exact o,E,F,f⟩
  ·rw[Zq (by simpa using r)]
   obtain⟨s,w,M,Y⟩:=j.last;rw[w]at p;cases p
   refine⟨P,a,b++x,d,j.put (s:=s) (by rw[y,gu]) (by have:=j.kl;simp;omega) ?_ (by rw[gu];simp;omega) ?_,⟨e.bf,?_,e.next⟩,C,?_,E,F,f⟩
   ·rw[List.take_append_of_le_length j.kl];exact M
   ·intro c N
    rcases Q6.1 N with H|H
    ·exact j.YC c H
    ·exact B c H
   ·show PP .i64 _=_
    rw[e.bytes,wrap_i64 cw,gu];simp
   ·rw[Zx rfl,<-o];simp[ck]
 dsimp only
 by_cases f:V.size<=V.bytes
 ·rw[Zx f]
  rcases h.begin i with⟨t,q,z⟩|⟨t,q,z,O,Q⟩
  ·rw[Zx t]
   exact⟨A,no,l,k,z,by rw[q];exact i,Q4 _,by rw[Zq t],by rw[q],m,.inl ⟨rfl,rfl,by rw[q]⟩⟩
  ·refine g _ (A++[(no,l)]) V.next [] 0 t z O (by simp[aB]) ?_ (by rw[Cq,List.append_nil]) q ?_ (.inr ⟨rfl,rfl,Q⟩)
   ·have:=h.kl;unfold Jr;simp;omega
   ·intro R S
    rcases Q6.1 S with H|H
    ·exact m R H
    ·rw[List.mem_singleton]at H;subst H
     rw[i.bytes]at f;exact f
 ·rw[Zq f]
  exact g (0,V,D) A no l k rfl h i K (Q4 _) rfl rfl m (.inl ⟨rfl,rfl,rfl⟩)
def Hp(s:cj D)(t:Tidy D.files)(a:0<=V.next/\V.next<1000000000000)(b:au D.files (ay V.next)=none):
  cj (bz V D).2.2/\((bz V D).1=0\/(bz V D).1=3\/(bz V D).1=12)/\((bz V D).1≠0->au (bz V D).2.2.files (ay V.next)=none):=by
 obtain⟨x,nt⟩:=fA (n:=V.next) (.inr a);unfold bz;dsimp only;rw[show cG (ax V.next)=ay V.next from rfl];obtain⟨c,d⟩:=s.create (ay V.next);have d:=d ((tX a.1).2 a.2) b;rcases lF D (ay V.next)with⟨e,k⟩|⟨e,k,y,l⟩
 ·rw[Zx e]
  exact⟨c,d.imp id .inr,λ_=>by show au (D.create _).2.files _=none;rw[k];exact b⟩
 rw[Zq (show¬(D.create (ay V.next)).1≠0 by simpa using e)];have f:tY (ay V.next) D (D.create (ay V.next)).2:=(tY.refl t).put l;have m:au (D.create (ay V.next)).2.files (ay V.next)=some ⟨[],0,false⟩:=by rw[l,bB];simp
 generalize(D.create (ay V.next)).2=P at f m c;unfold mZ;dsimp only;rw[show cG (ax V.next)=ay V.next from rfl];obtain⟨o,g⟩:=c.sync (ay V.next);have g:=g _ m;rw[Zq (show¬(P.sync (ay V.next)).1≠0 by simpa using g)];have h:Tidy (P.sync (ay V.next)).2.files:=by
  rcases nN P (ay V.next)with⟨i,n⟩|⟨i,z,b,n⟩
  ·rw[n];exact f.1
  ·rw[n];exact f.1.aI _ _
 generalize(P.sync (ay V.next)).2=j at h o;obtain⟨p,u⟩:=o.bA h (V.bf++[V.next]);have mt:Tidy (bA j (V.bf++[V.next])).2.files:=by
  rcases Lw h (V.bf++[V.next])with⟨-,q,-⟩|⟨-,-,q,-⟩<;>exact q
 by_cases r:(bA j (V.bf++[V.next])).1=0
 ·rw[Zq (by simpa using r)]
  exact⟨p,.inl rfl,λv=>Zz rfl v⟩
 ·rw[Zx r]
  obtain⟨i,n⟩:=p.delete (ay V.next);refine⟨i,u,λ_=>?_⟩;show au ((bA j (V.bf++[V.next])).2.delete (ay V.next)).2.files _=none;rcases n with n|⟨n,w⟩
  ·rw[n,gh mt];simp
  ·rw[w];exact n
def VL(V:dx)(D:ak):Prop:=∀n,V.next<=n->n<1000000000000->au D.files (ay n)=none
end
section
variable {D E:ak} {A:pX} {no:Int} {l x:List ah} {k j n s:Nat} {V:dx}
def cj.read(P:cj D){n:ByteArray}(a:au D.files n=some W):D.read n=(W.bytes,0):=by
 unfold ak.read;rw[P.dead,a];rfl
def cj.told(P:cj D){n:List Int}(a:au D.files cf=some (dR (bU n)))(b:∀x∈n,aK x)(c:n.length<=64):told D=n:=by
 unfold Go.Proofs.YtkpomgifkloklabGreatDoor.told dB;rw[P.read a,Zq sM,show(dR (bU n)).bytes=bU n from rfl,oK b c];rfl
def yL(d:cj D):∀(A:pX) (n:List Int) (P:List ah) (V:dx),(∀x∈A,au D.files (ay x.1)=some (dR (aB x.2)))->(∀a∈(A.map (·.2)).flatten,a.Ok/\a.aM.length<=64)->
  ∃b,cP (cW A++n) P V D=cP n (P++(A.map (·.2)).flatten) ⟨V.size,V.bf++cW A,b,V.next⟩ D
 |[],n,P,V,_,_=>⟨V.bytes,by simp[cW]⟩
 |y::A,n,P,V,e,f=>by
  have g:=d.read (e y (QV ..));have h:=qM (l:=y.2) λa c=>f a (by simp only[QY,List.flatten_cons];exact ZV _ c);obtain⟨b,i⟩:=yL d A n (P++y.2) ⟨V.size,V.bf++[y.1],((aB y.2).length:Nat),V.next⟩ (λx j=>e x (QJ _ j)) λa c=>f a (by simp only[QY,List.flatten_cons];exact ZW _ c);refine⟨b,?_⟩;have k:cW (y::A)++n=y.1::(cW A++n):=rfl;rw[k]
  conv=>lhs;unfold cP
  have l:(dR (aB y.2)).bytes=aB y.2:=rfl;rw[g,Zq sM,l];dsimp only;rw[h,Zq sM];dsimp only;rw[i];simp[cW,XQ]
def Pz{size:Int}(d:cj D)(r:Tidy D.files)(a:cM E A no l k)(m:∀x∈A,au D.files (ay x.1)=some (dR (aB x.2)))(o:au D.files cf=some (dR (bU (cW A++[no]))))(g:au D.files (ay no)=some ⟨(aB l).take n,s,true⟩)(hs:s<=min n (aB l).length)(M:(aB (l.take k)).length<=s):
  ∃P,k<=P/\P<=l.length/\((aB l).length<=n->P=l.length)/\(aU D size).no=0/\(aU D size).out=ck A (l.take P)/\HN (aU D size).V A no (l.take P)/\(aU D size).V.size=size/\(aU D size).V.next=ir D/\
   cM (aU D size).D A no (l.take P) k/\cj (aU D size).D/\(s=min n (aB l).length->cM (aU D size).D A no (l.take P) P)/\∀x,x≠ay no->au (aU D size).D.files x=au D.files x:=by
 have t:=a.YC;obtain⟨P,u,N,O,v⟩:=wH t n;have b3:=jQ l P;have p:k<=P:=by
  refine Nat.le_of_not_lt λq=>?_;have Q:=v (by have:=a.kl;omega);have R:=Cr (l:=l) (i:=P+1) (j:=k) q;omega
 have S:(aB l).length<=n->P=l.length:=λhn=>by
  refine Nat.le_antisymm u (Nat.le_of_not_lt λq=>?_);have Q:=v q;have R:=jQ l (P+1);omega
 have T:∀x∈cW A++[no],aK x:=λx e=>by have:=a.Ah x e;unfold aK;omega
 have U:(cW A++[no]).length<=64:=by have:=a.many;simpa[cW]using this
 have w:=d.told o T U;obtain⟨y,V⟩:=yL d A [no] [] (dO D size) m λb f=>a.evs b (ZV _ f);have z:=d.read g;simp only at z;have b4:((aB l).take n).length=min n (aB l).length:=Qy;have B:no<ir D:=Jp (by have:=a.tZ;omega) (by rw[g];rfl);have C:=sh D.list;have F:∀b∈l.take P,b.Ok/\b.aM.length<=64:=λb f=>t b (List.mem_of_mem_take f);have W:cM ⟨D.most,aI D.files (ay no) ⟨aB l,(aB l).length,true⟩,D.ju,D.left,D.dead⟩ A no l k:=by
  have X:=a.VK;have Y:=(fA (n:=no) (.inr (by have:=a.tZ;omega))).1;exact⟨r.aI _ _,λx e=>by show au (aI _ _ _) _=_;rw[bB,Zq (by simpa using X x e)];exact m x e,⟨_,by show au (aI _ _ _) _=_;rw[bB];simp,by exact jQ l k,Q4 _⟩,a.kl,by show au (aI _ _ _) _=_;rw[bB,Zq (by simpa using Y.symm)];exact o,a.Ah,a.zj,a.evs,a.many⟩
 have H:cP (told D) [] (dO D size) D=cP [no] ((A.map (·.2)).flatten) ⟨size,cW A,y,ir D⟩ D:=by
  rw[w,V];simp[dO]
 have I:cP [no] ((A.map (·.2)).flatten) ⟨size,cW A,y,ir D⟩ D=
   if(aB (l.take P)).length<((aB l).take n).length then⟨(D.n_ (ay no) (aB (l.take P)).length).1,ck A (l.take P),⟨size,cW A++[no],((aB (l.take P)).length:Nat),ir D⟩,(D.n_ (ay no) (aB (l.take P)).length).2⟩
   else⟨0,ck A (l.take P),⟨size,cW A++[no],((aB (l.take P)).length:Nat),ir D⟩,D⟩:=by
  unfold cP;rw[z,Zq sM];dsimp only;rw[N];dsimp only;split
  ·rfl
  ·unfold cP;rfl
 have J:∀(h:oY),h.no=0->h.V.bf=cW A++[no]->gi (told D).length h=h:=λh Z K=>by
  unfold gi;rw[Zq (by simpa using Z),Zq (by rw[K];simp),Zq (by rw[K,w];omega)]
 have a0:aU D size=cP (told D) [] (dO D size) D:=by
  unfold aU;rw[H,I];split
  ·exact J _ (d.n_ g _).1 rfl
  ·exact J _ rfl rfl
 rw[a0,H,I];refine⟨P,p,u,S,?_⟩;split
 ·rename_i b1
  obtain⟨c1,c2,c3⟩:=d.n_ g ((aB (l.take P)).length:Nat);have a6:gZ ((aB (l.take P)).length:Nat) ((aB l).take n).length=(aB (l.take P)).length:=by unfold gZ;omega
  have a7:(⟨(aB l).take n,s,true⟩:bZ).cut ((aB (l.take P)).length:Nat)=⟨aB (l.take P),(aB (l.take P)).length,true⟩:=by
   unfold bZ.cut;simp only[a6];rw[List.take_take,X2 O,EY]
  have L:(D.n_ (ay no) ((aB (l.take P)).length:Nat)).2.files=aI D.files (ay no) ⟨aB (l.take P),(aB (l.take P)).length,true⟩:=by
   rw[c2,a7];rfl
  have i:∀c,c<=P->cM (D.n_ (ay no) ((aB (l.take P)).length:Nat)).2 A no (l.take P) c:=λc j=>
   W.put (s:=(aB (l.take P)).length) (by rw[L];show _=aI (aI _ _ _) _ _;rw[xN]) cS (jQ _ _) (Q4 _) F
  refine⟨c1,rfl,⟨rfl,rfl,B,C.2⟩,rfl,rfl,i k p,c3,λ_=>i P (Q4 _),λx e=>?_⟩;show au (D.n_ (ay no) ((aB (l.take P)).length:Nat)).2.files x=_;rw[L,bB,Zq (by simpa using e)]
 ·rename_i b2
  have a8:(aB (l.take P)).length=min n (aB l).length:=oM
  have a9:(aB l).take n=aB (l.take P):=by
   rw[<-EY l P,a8,List.take_eq_take_iff];omega
  have i:∀c,c<=P->(aB (l.take c)).length<=s->cM D A no (l.take P) c:=λc j b0=>
   ⟨r,m,⟨s,by rw[g,a9],by rw[List.take_take,X2 j];exact b0,oM⟩,by simp;omega,o,a.Ah,a.zj,λb f=>(Q6.1 f).elim (λh'=>a.evs b (ZV _ h')) (F b),a.many⟩
  exact⟨rfl,rfl,⟨rfl,rfl,B,C.2⟩,rfl,rfl,i k p M,d,λf=>i P (Q4 _) oM,λ_ _=>rfl⟩
def JK(P:Nat)(n:Int):aU (gO P) n=⟨(bz ⟨n,[],0,1⟩ (gO P)).1,[],(bz ⟨n,[],0,1⟩ (gO P)).2.1,(bz ⟨n,[],0,1⟩ (gO P)).2.2⟩:=by
 have a:ir (gO P)=1:=by simp[ir,tA,ak.list,gO,tk]
 have b:told (gO P)=[]:=by
  have:(gO P).read cf=([],14):=by simp[ak.read,gO,au]
  unfold told dB;rw[this];rfl
 have c:(dO (gO P) n)=⟨n,[],0,1⟩:=by unfold dO;rw[a]
 unfold aU;rw[b,c];unfold cP gi;rw[Zq sM,Zx rfl];unfold aN;rw[Zx rfl]
def Su(P:Nat)(n:Int):((aU (gO P) n).no=3\/(aU (gO P) n).no=12)\/
  ((aU (gO P) n).no=0/\(aU (gO P) n).out=[]/\cM (aU (gO P) n).D [] 1 [] 0/\HN (aU (gO P) n).V [] 1 []/\(aU (gO P) n).V.size=n/\(aU (gO P) n).V.next=2/\cj (aU (gO P) n).D/\VL (aU (gO P) n).V (aU (gO P) n).D):=by
 have e:cj (gO P):=⟨rfl,rfl⟩
 have c:Tidy (gO P).files:=by simp[Tidy,gO]
 rw[JK];obtain⟨f,g,s⟩:=Hp (V:=⟨n,[],0,1⟩) e c ⟨sM,sM⟩ (by simp[gO,au]);rcases Cs (D:=gO P) (V:=⟨n,[],0,1⟩) c sM with⟨b,h,i,j⟩|⟨b,h,i,j,a,k,l,m,o⟩
 ·exact .inl (g.resolve_left b)
 ·refine .inr ⟨b,rfl,⟨k,sM,⟨0,l,by simp[aB],Qj _⟩,Q4 _,m,by simp[cW],by simp[cW],by simp[ck],sM⟩,⟨by rw[a];rfl,by rw[a];rfl,by rw[a];simp⟩,by rw[a],by rw[a];rfl,f,?_⟩
  show VL (bz ⟨n,[],0,1⟩ (gO P)).2.1 (bz ⟨n,[],0,1⟩ (gO P)).2.2;rw[a];intro p q t;simp only at q;have d:=fA (n:=p) (.inr oM);rw[o _ (λr=>by have:=se (a:=1) oM r;omega) d.2 d.1];simp[gO,au]
end
section
variable {D E:ak} {A:pX} {no:Int} {l x:List ah} {k:Nat} {V:dx} {b:List UInt8} {size:Int}
def Bd:∀(b:List Int) {D:ak},Tidy D.files->Tidy (jE b D).files/\∀P,(∀n∈b,P≠ay n)->au (jE b D).files P=au D.files P
 |[],D,c=>⟨c,λ_ _=>rfl⟩
 |n::b,D,c=>by
  have d:Tidy (D.delete (ay n)).2.files/\∀P,P≠ay n->au (D.delete (ay n)).2.files P=au D.files P:=by
   rcases jB D (ay n)with e|e
   ·rw[e];exact⟨c,λ_ _=>rfl⟩
   ·rw[e];exact⟨c.bQ _,λP a=>by rw[gh c,Zq (by simpa using a)]⟩
  unfold jE;split
  ·exact⟨d.1,λP a=>d.2 P (a n (QV ..))⟩
  ·obtain⟨f,g⟩:=Bd b d.1
   exact⟨f,λP a=>(g P λh i=>a h (QJ _ i)).trans (d.2 P (a n (QV ..)))⟩
def GA(s:Tidy D.files)(t:0<=no):((bE no b D).1≠0/\Tidy (bE no b D).2.files/\∀n,n≠ay no->n≠aQ->au (bE no b D).2.files n=au D.files n)\/
  ((bE no b D).1=0/\no<1000000000000/\au D.files (ay no)=none/\Tidy (bE no b D).2.files/\au (bE no b D).2.files (ay no)=some (dR b)/\
   au (bE no b D).2.files cf=some (dR (bU [no]))/\∀n,n≠ay no->n≠aQ->n≠cf->au (bE no b D).2.files n=au D.files n):=by
 unfold bE;dsimp only;rw[show cG (ax no)=ay no from rfl];rcases lF D (ay no)with⟨k,l⟩|⟨k,l,B,u⟩
 ·rw[Zx k]
  exact .inl ⟨k,by show Tidy (D.create _).2.files;rw[l];exact s,λn _ _=>by show au (D.create (ay no)).2.files n=_;rw[l]⟩
 have v:=(tX t).1 l;obtain⟨C,nt⟩:=fA (n:=no) (.inr ⟨t,v⟩);rw[Zq (show¬(D.create (ay no)).1≠0 by simpa using k)];have m:tY (ay no) D (D.create (ay no)).2:=(tY.refl s).put u;have w:au (D.create (ay no)).2.files (ay no)=some ⟨[],0,false⟩:=by rw[u,bB];simp
 generalize(D.create (ay no)).2=f at m w;have d:∀{F:ak},Tidy F.files->(∀n,n≠ay no->n≠aQ->au F.files n=au D.files n)->Tidy (F.delete (ay no)).2.files/\∀n,n≠ay no->n≠aQ->au (F.delete (ay no)).2.files n=au D.files n:=by
  intro F q x;rcases jB F (ay no)with e|e
  ·rw[e];exact⟨q,x⟩
  ·rw[e];exact⟨q.bQ _,λn a h=>by rw[gh q,Zq (by simpa using a)];exact x n a h⟩
 rcases oJ f (ay no) b with⟨c,P⟩|⟨c,E,i,P⟩
 ·rw[Zx c]
  have:=d (F:=(f.append (ay no) b).2) (by rw[P];exact m.1) λn a _=>by rw[P];exact m.2 n a
  exact .inl ⟨c,this⟩
 rw[w]at i;cases i
 rw[Zq (show¬(f.append (ay no) b).1≠0 by simpa using c)];have o:tY (ay no) D (f.append (ay no) b).2:=m.put P;have y:au (f.append (ay no) b).2.files (ay no)=some ⟨b,0,false⟩:=by rw[P,bB];simp
 generalize(f.append (ay no) b).2=g at o y;rcases nN g (ay no)with⟨c,P⟩|⟨c,E,i,P⟩
 ·rw[Zx c]
  have:=d (F:=(g.sync (ay no)).2) (by rw[P];exact o.1) λn a _=>by rw[P];exact o.2 n a
  exact .inl ⟨c,this⟩
 rw[y]at i;cases i
 have p:tY (ay no) D (g.sync (ay no)).2:=o.put P;have z:au (g.sync (ay no)).2.files (ay no)=some (dR b):=by rw[P,bB];simp
 rw[Zq (show¬(g.sync (ay no)).1≠0 by simpa using c)];generalize(g.sync (ay no)).2=H at p z;rcases Lw p.1 [no]with⟨j,r⟩|⟨j,r,I,J,A⟩
 ·rw[Zx j]
  have:=d (F:=(bA H [no]).2) r.1 λn a h=>(r.2 n h).trans (p.2 n a);exact .inl ⟨j,this⟩
 ·rw[Zq (by simpa using j)]
  exact .inr ⟨j,v,B,I,(A _ nt C).trans z,J,λn a h K=>(A n h K).trans (p.2 n a)⟩
def cM.lt_next(b:cM D A no l k)(c:HN V A no l):∀n∈cW A++[no],n<V.next:=λn d=>by
 have e:=c.next;rcases Q6.1 d with P|P
 ·have a:=b.zj
  rw[List.pairwise_append]at a;have:=a.2.2 n P no (List.mem_singleton.2 rfl);omega
 ·have:=List.mem_singleton.1 P;omega
def cM.ne_next(P:cM D A no l k)(b:HN V A no l):∀n∈cW A++[no],ay n≠ay V.next:=λn a c=>by
 have d:=P.Ah n a;have e:=P.lt_next b n a;have:=se (a:=n) ⟨oM,d.2⟩ c.symm;omega
def Ud(a:0<=no):cf≠ay no:=λn=>by
 by_cases b:no<1000000000000
 ·exact(fA (n:=no) (.inr oM)).1 n.symm
 ·have P:ay no=cG []:=by unfold ay ax;rw[Zx (.inr oM)]
  rw[P]at n
  revert n;decide+kernel
def RH(P:Tidy D.files)(a:1<=no/\no<1000000000000)(b:au D.files (ay no)=some (dR (aB x)))(c:au D.files cf=some (dR (bU [no])))(d:∀n∈x,n.Ok/\n.aM.length<=64):cM D [] no x x.length:=
 ⟨P,λf e=>(by cases e),⟨_,b,by rw[List.take_length];exact Q4 _,Q4 _⟩,Q4 _,c,by simpa[cW]using a,by simp[cW],by simpa[ck]using d,sM⟩
def cM.bE(n:cM D A no l k)(d:HN V A no l)(g:∀P∈x,P.Ok/\P.aM.length<=64):
  ((bE V.next (aB x) D).1≠0/\cM (bE V.next (aB x) D).2 A no l k)\/((bE V.next (aB x) D).1=0/\V.next<1000000000000/\cM (bE V.next (aB x) D).2 [] V.next x x.length):=by
 have m:=n.tZ;have o:=d.next;rcases GA (b:=aB x) n.tidy (show 0<=V.next by omega)with⟨a,b,c⟩|⟨a,b,c,h,i,j,p⟩
 ·exact .inl ⟨a,n.same b (λe f=>c _ (n.ne_next d e f) (fA (.inr (by have:=n.Ah e f;omega))).2) (c _ (Ud oM) λP=>Nw P.symm)⟩
 ·exact .inr ⟨a,b,RH h oM i j g⟩
def t_(P:D.dead=false){n:ByteArray}(a:au D.files n=some W):D.read n=(W.bytes,0):=by
 unfold ak.read;rw[P,a];rfl
def vh(d:D.dead=false):∀(A:pX) (n:List Int) (P:List ah) (V:dx),(∀x∈A,au D.files (ay x.1)=some (dR (aB x.2)))->(∀a∈(A.map (·.2)).flatten,a.Ok/\a.aM.length<=64)->
  ∃b,cP (cW A++n) P V D=cP n (P++(A.map (·.2)).flatten) ⟨V.size,V.bf++cW A,b,V.next⟩ D
 |[],n,P,V,_,_=>⟨V.bytes,by simp[cW]⟩
 |y::A,n,P,V,e,f=>by
  have g:=t_ d (e y (QV ..));have h:=qM (l:=y.2) λa c=>f a (by simp only[QY,List.flatten_cons];exact ZV _ c);obtain⟨b,i⟩:=vh d A n (P++y.2) ⟨V.size,V.bf++[y.1],((aB y.2).length:Nat),V.next⟩ (λx j=>e x (QJ _ j)) λa c=>f a (by simp only[QY,List.flatten_cons];exact ZW _ c);refine⟨b,?_⟩;have k:cW (y::A)++n=y.1::(cW A++n):=rfl;rw[k]
  conv=>lhs;unfold cP
  have l:(dR (aB y.2)).bytes=aB y.2:=rfl;rw[g,Zq sM,l];dsimp only;rw[h,Zq sM];dsimp only;rw[i];simp[cW,XQ]
def Lx(n:cM D A no l k)(P:D.dead=false):aU D size=⟨0,ck A l,⟨size,cW A++[no],((aB l).length:Nat),ir D⟩,D⟩:=by
 obtain⟨o,c,p,q⟩:=n.last;have d:∀x∈cW A++[no],aK x:=λx e=>by have:=n.Ah x e;unfold aK;omega
 have f:(cW A++[no]).length<=64:=by have:=n.many;simpa[cW]using this
 have a:told D=cW A++[no]:=by
  unfold told dB;rw[t_ P n.Xa,Zq sM,show(dR (bU (cW A++[no]))).bytes=bU (cW A++[no])from rfl,oK d f];rfl
 obtain⟨b,g⟩:=vh P A [no] [] (dO D size) n.full λh i=>n.evs h (ZV _ i);have j:=t_ P c;have m:cP (told D) [] (dO D size) D=⟨0,ck A l,⟨size,cW A++[no],((aB l).length:Nat),ir D⟩,D⟩:=by
  rw[a,g];unfold cP;rw[j,Zq sM];dsimp only;rw[qM n.YC,Zq sM];unfold cP;simp[dO,ck]
 unfold aU;rw[m];unfold gi;rw[Zq sM,Zq sM,Zq (by rw[a];simp)]
def OT(n:D.dead=true):(aU D size).no=15/\(aU D size).D.files=D.files:=by
 have P:told D=[]:=by
  have:D.read cf=([],15):=by unfold ak.read;rw[n];rfl
  unfold told dB;rw[this];rfl
 have a:∀V:dx,V.bf=[]->aN V D=(15,V,D.gone):=λV b=>by
  unfold aN;rw[Zx b];have c:D.create (cG (ax V.next))=(15,D.gone):=by
   unfold ak.create ak.op ak.dies;rw[n];rfl
  unfold bz;dsimp only;rw[c,Zx sM]
 unfold aU;rw[P];unfold cP gi;rw[Zq sM,Zx (show(dO D size).bf=[]from rfl),show aN _ _=_ from a (dO D size) rfl];exact⟨rfl,rfl⟩
end
section
variable {D E:ak} {A:pX} {no:Int} {l x:List ah} {k:Nat} {V:dx} {b:List UInt8} {size:Int} {L:List Int}
structure KF (D:ak) (no:Int) (x:List ah):Prop where
 held:cM D [] no x x.length
 alive:cj D
 none:∀y,y≠ay no->y≠cf->au D.files y=none
def RI:(gV cf).2=false:=by decide+kernel
end
section
variable {D E:ak} {A:pX} {no:Int} {l:List ah} {k:Nat}
def AP:∀(n:List ByteArray) {D:ak},cj D->cj (KX D n)
 |[],D,P=>P
 |s::n,D,P=>AP n (P.delete s).1
def AQ:∀(a:List ByteArray) {D:ak},cj D->Tidy D.files->∀n,au (KX D a).files n=if n∈a then none else au D.files n
 |[],D,_,_,n=>by simp[KX]
 |P::a,D,d,b,n=>by
  show au (KX (D.delete P).2 a).files n=_;obtain⟨f,g⟩:=d.delete P;have h:Tidy (D.delete P).2.files:=by
   rcases jB D P with e|e
   ·rw[e];exact b
   ·rw[e];exact b.bQ _
  have e:au (D.delete P).2.files n=if n=P then none else au D.files n:=by
   rcases g with e|⟨i,e⟩
   ·rw[e,gh b];simp
   ·rw[e];split
    ·rename_i j;rw[j,i]
    ·rfl
  rw[AQ a f h n,e]
  by_cases c:n∈a
  ·simp[c]
  ·by_cases k:n=P<;>simp[c,k]
def KY:cf≠aQ:=by decide+kernel
end
end Go.Proofs.YtkpomgifkloklabGreatDoor
namespace Go.Proofs
open Go.RowKit Go.Maps Go.Sort Go.Shelf
def Tryz.WW(b:Nat):AnyZI.SortsIn Tryz.prog Tryz.yX Fence.wide b:=
 ⟨λaH P n c a d e f=>callsIn_wide.2 (AnyM.slices_Sort_int Tryz.wM aH P n c a d e f),
  λg n a=>callsIn_wide.2 (AnyM.slices_Sort_int_none Tryz.wM g n a)⟩
end Go.Proofs
namespace Go.Proofs.YtkpomgifkloklabGreatDoor
section
open Go.aw
open Go.RowKit Go.Maps Go.Sort Go.Shelf
def wM(n:List Int):List Int:=n.mergeSort (λP a=>decide (P<=a))
variable{g6:List (Int×Value)}{a c:Nat}{H:Nat×Nat}{g:TypeId}{b:World}
def Af(w:bW b a (Value.int .i64) g6)(F:∀f∈g6,aK f.1)(x:g6.length*8<=aP)(y:b.heap[c]? =some (.cells #[.map (some a)] g H)):
  be 158 #[.func (.func 214) #[] #[RK c]] b
   (Ok λp z=>HI b 3 (wM (g6.map (·.1))) p z):=by
 unfold aP at x;obtain⟨d,h,I,l,J,K⟩:=w.at';have L:Tryz.prog.underlying 3=some (.int .i64):=Tryz.underlying3;have M:d.size=g6.length:=by have:=Zj List.length l;simpa using this
 have N:∀n:Int,aK n->(Lit.int .i64 n).wf=true:=λn i=>by unfold aK at i;simp[Lit.wf,IntKind.min,IntKind.max,IntKind.signed,IntKind.bits];omega
 have A:∀P∈d.toList,∃n,P.key=Value.int .i64 n/\aK n:=λP e=>by
  have O:(P.key,P.val)∈g6.map (λf=>(Value.int .i64 f.1,f.2)):=by rw[<-l];exact Xk.2 ⟨P,e,rfl⟩
  obtain⟨f,Q,R⟩:=Xk.1 O;exact⟨f.1,(Prod.mk.inj R).1.symm,F f Q⟩
 have B:∀P∈d.toList,∀n,P.key=Value.int .i64 n->aK n->WideElems.rd LL 3 (λ_=>some ((.nil:DataW Unit),[])) P=some (.int .i64 n,.nil):=λP _ n i j=>by
  simp[WideElems.rd,i,Maps.keyOf_int_mk L (N n j)]
 have S:WideElems.Fit LL 3 (λ_=>some ((.nil:DataW Unit),[])) d h:=by
  refine⟨by unfold maxLen;omega,⟨J,K,?_⟩,λP e=>?_⟩
  ·have:d.toList.map (·.key)=(g6.map (·.1)).map (Value.int .i64):=by
    have:=Zj (List.map (λq:Value×Value=>q.1)) l;simpa[Function.comp_def]using this
   rw[this];exact List.pairwise_map.2 (List.Pairwise.imp (λT=>by simpa using T) w.tidy)
  ·obtain⟨n,i,j⟩:=A P e
   exact⟨_,B P e n i j⟩
 have U:b.ownsMap LL 3 (λ_=>some ((.nil:DataW Unit),[])) a d.size (.map ((d.toList.map (WideElems.rg LL 3 (λ_=>some ((.nil:DataW Unit),[])))).foldr DataW.insert [])):=
  ⟨d,h,I,S,Q4 _,rfl⟩
 have C:Maps.size (.map ((d.toList.map (WideElems.rg LL 3 (λ_=>some ((.nil:DataW Unit),[])))).foldr DataW.insert []))=g6.length:=by
  show(List.foldr DataW.insert [] _).length=_;rw[(WideShapes.sorted_perm _).length_eq];simp[M]
 have V:(intKeys (.map ((d.toList.map (WideElems.rg LL 3 (λ_=>some ((.nil:DataW Unit),[])))).foldr DataW.insert []))).Perm (g6.map (·.1)):=by
  refine(List.Perm.map (λf:Lit×DataW Unit=>Go.intOf f.1) (WideShapes.sorted_perm _)).trans ?_;have:(d.toList.map (WideElems.rg LL 3 (λ_=>some ((.nil:DataW Unit),[])))).map (λf=>Go.intOf f.1)=g6.map (·.1):=by
   have W:d.toList.map (λP=>match P.key with| .int _ n=>n|_=>0)=g6.map (·.1):=by
    have:=Zj (List.map (λq:Value×Value=>match q.1 with| .int _ n=>n|_=>0)) l;simpa[Function.comp_def]using this
   rw[<-W,List.map_map];refine List.map_congr_left λP e=>?_;obtain⟨n,i,j⟩:=A P e;simp[WideElems.rg,B P e n i j,i,Go.intOf]
  rw[this]
 have X:SeqGives Fence.wide 1 LL 214 #[RK c] encZ (λk=>k.Perm (intKeys _)) (Maps.size _) b:=
  AnyZI.keys_gives (ρ:=Tryz.FH) {Tryz.Ys with} Fence.wide _ trivial rfl oM c a d.size _ b (aA y) (ae y rfl) U
 have Y:=AnyZI.sorted_in Tryz.Vj Fence.wide 4 trivial trivial trivial trivial rfl oM (Tryz.WW _) (enters_of Tryz.func213 kR rfl) 214 #[RK c] trivial
  (enters_of Tryz.func214 kR rfl) _ _ (by rw[C];unfold maxLen;omega) (by rw[C];exact x) b X
 refine((callsIn_wide (n:=4)).1 Y).mono ?_;rintro P z ⟨p,k,rfl,Z,m,a5,r⟩;have E:k.mergeSort (λn a0=>decide (n<=a0))=wM (g6.map (·.1)):=mergeSort_of_perm_i (Z.trans V);have a6:k.length=(wM (g6.map (·.1))).length:=by rw[<-E];simp
 rw[E]at m;have hv:∃s t,p= .slice s k.length t:=by
  rcases m.2 with⟨rfl,h0⟩|⟨g',u,v,rfl,_⟩
  ·exact⟨none,0,by rw[h0]⟩
  ·exact⟨_,_,rfl⟩
 obtain⟨s,t,rfl⟩:=hv;refine Ok.mk ⟨s,_,t,rfl,⟨ownsRow_base_a m (Qj _)⟩,aj.HZ r,λa1 o=>?_⟩;rcases m.2 with⟨e,_⟩|⟨g',u,v,e,a7,_⟩
 ·simp only[XX]at e
  rw[e.1]at o;cases o
 ·simp only[XX]at e
  rw[e.1]at o;simp only[aH,Q1]at o;omega
end
section
open Go.aw
structure kr where
 de:Int
 asked:List (Int×Int)
 heard:List (Int×List Int)
 deriving DecidableEq
def ZS(n:Value)(P:Int):Prop:=n= WP P
def Ql(d:World)(e:UL)(f:Value)(a:List Int):Prop:=
 ∃n P b,f= .slice n P b/\Own d 3 1 n P b (ints a)/\P*8<=aP/\(∀g∈a,aK g)/\∀c,aH n=some c->e c
def Ql.keep{S b F':UL}{a e:World}{f:Value}{g:List Int}(c:Ql a b f g)(l:aj S a e)(m:∀n,b n->n<a.heap.size->(∃h,a.heap[n]? =some h/\∀i j,h≠.map i j)->¬S n)(o:∀n,b n->F' n):Ql e F' f g:=by
 obtain⟨p,q,r,rfl,d,P,s,k⟩:=c;refine⟨p,q,r,rfl,d.keep l (dy.2 λn P=>?_),P,s,λn P=>o n (k n P)⟩;refine m n (k n P) (d.lt P) ?_;rcases d.cases with⟨rfl,_⟩|⟨v,t,rfl,u,_⟩
 ·cases P
 ·simp only[aH,Q1]at P
  subst P;exact⟨_,u,λi j c=>by cases c⟩
structure ep (w:World) (p:Nat) (F:UL) (T:kr):Prop where
 body:∃ra rh la lh,w.heap[p]? =some (.cells #[WP T.de,.map (some ra),.map (some rh)] 169 (0,0))/\bW w ra (Value.int .i64) la/\bW w rh (Value.int .i64) lh/\
  fL ZS la T.asked/\fL (Ql w F) lh T.heard/\F ra/\F rh/\ra≠rh
 self:F p
 aE:∀b,F b->b<w.heap.size
 Kx:Tidy T.asked
 tl:∀q∈T.asked,aK q.1
variable{Y o:Array Value}{J:Bool}{y:am}{e p:Int}{h8:List (Int×List Int)}{g6:List (Int×Value)}{b3 s:List Int}{a6 h9:List PanicEntry->ba}{I:List ah}{a7:List bD}{F a c i r:Nat}{f:UL}{H:Nat×Nat}{d v:bc}{h:Program}{j:Type}{g q:TypeId}{b k:World}{S:aR}{M l:ah}{B:aq}{b4:dx}{b8:kr}{c6:kv}
def ep.keep{S e:UL}(n:ep b a e b8)(c:aj S b k)(d:∀P,e P->¬S P):ep k a e b8:=by
 obtain⟨i,j,l,m,o,p,q,r,s,g,h,t⟩:=n.body;exact⟨⟨i,j,l,m,c.get o (d _ n.self),p.keep c (d _ g),q.keep c (d _ h),r,s.mono λv w u=>u.keep c (λP f _ _=>d P f) (λ_ n=>n),g,h,t⟩,
  n.self,λP f=>Qk (n.aE P f) c.size,n.Kx,n.tl⟩
def ep.af(n:ep b a f b8)(P:ai b k):ep k a f b8:=n.keep P λ_ _ n=>n
def kI:ji LL 3 (Value.int .i64):=Xh Tryz.underlying3
def mA:mK LL 166 3 3 (WP 0):=⟨kR,kR⟩
def mH:mK LL 167 3 55 (.slice none 0 0):=⟨kR,kR⟩
def Kf:be 51 #[WP e] b
  (Ok λh c=>∃d f,h= RK d/\ep c d f ⟨e,[],[]⟩/\ai b c/\∀n,f n->b.heap.size<=n):=by
 refine Dt (PA.mk λi j q k=>PA.mk λl g r m=>PA.mk λo P s p=>Ok.mk ⟨l.heap.size,λn=>b.heap.size<=n/\n<o.heap.size,rfl,
  ⟨⟨b.heap.size,i.heap.size,[],[],p,bW.new (P.get (g.get k id) id),bW.new (P.get m id),trivial,trivial,oM,oM,oM⟩,oM,λn a=>a.2,by simp[Tidy],sM⟩,
  (j.af g).af P,λn a=>a.1⟩)
def Kl(n:ep b a f b8)(t:aK e):
  be 59 #[RK a,WP e,WP p] b
   (Ok λo i=>o= .tuple #[]/\ep i a f {b8 with asked:=aI b8.asked e p}/\aj f b i):=by
 obtain⟨P,u,K,v,j,q,w,x,y,r,z,s⟩:=n.body;have A:∃c d,b.heap[P]? =some (.map c d):=by obtain⟨c,d,n,_⟩:=q.at';exact⟨c,d,n⟩
 obtain⟨c,d,k⟩:=A;have B:a≠P:=by rintro rfl;rw[j]at k;cases k
 refine qi ⟨a,0,rfl,some P,ae j rfl,dA mA kI q λi C g E=>Ok.mk ⟨rfl,⟨⟨P,u,_,v,g.get j B,C,w.keep g (Ne.symm s),fL.aI (R:=ZS) rfl x,?_,r,z,s⟩,n.self,?_,n.Kx.aI _ _,?_⟩,g.mono ?_⟩⟩
 ·refine y.mono λo L F=>F.keep g (λl _ _ h=>?_) (λ_ n=>n)
  rintro rfl;obtain⟨M,h,H⟩:=h;rw[k]at h;cases h;exact H _ _ rfl
 ·intro l I;rw[E];exact n.aE l I
 ·intro J m
  rcases fG m with rfl|m
  ·exact t
  ·exact n.tl J m
 ·rintro l _ rfl;exact r
def kr.all(P:kr)(n:Int)(a:List Int):List Int:=kV ((au P.heard n).getD []) a
def HG(P n:List Int):Bool:=lD P n==0||lD P n==2
def kr.ends(a:kr)(n:Int)(b P:List Int):Bool:=(au a.asked n).isSome&&HG (a.all n b) P
def kr.Ae(P:kr)(n:Int)(b a:List Int):kr:=
 {P with heard:=aI P.heard n (P.all n b),asked:=if P.ends n b a then bQ P.asked n else P.asked}
def CF(a:∀b∈s,aK b)(n:Int):aK (fq s n):=by
 unfold fq;split
 ·unfold aK;omega
 ·by_cases P:n.toNat<s.length
  ·have:=a s[n.toNat] (XY P)
   simp only[List.getD,Qq P,Option.getD_some];unfold aK at*;omega
  ·have:s[n.toNat]? =none:=by simp;omega
   simp only[List.getD,this,Option.getD_none];unfold aK;omega
def FA(a:∀n∈s,aK n)(b:∀n∈b3,aK n):∀n∈kV s b3,aK n:=by
 intro n c;obtain⟨P,_,rfl⟩:=Xk.1 c;have d:=CF a P;have e:=CF b P;unfold aK at*;omega
def HH(n P:List Int):(kV n P).length=max n.length P.length:=th _ _ _
def ep.Ve(i:fL (Ql b f) g6 h8)(n:Int):
  ∃P a c,(au g6 n).getD (.slice none 0 0)= .slice P a c/\Ints b P a ((au h8 n).getD [])/\a*8<=aP/\∀g,aH P=some g->f g:=by
 rcases i.au n with⟨d,e⟩|⟨m,o,d,e,P,a,c,rfl,j,h,k,l⟩
 ·rw[d,e];exact⟨none,0,0,rfl,Ints.nil b,by simp[aP],by simp[aH]⟩
 ·rw[d,e];exact⟨P,a,c,rfl,j.ints h k,h,l⟩
def Kb(n:ep b a f b8)(L:Ints b d c s)(hy:Ints b v i b3)(W:b3≠[]->pI f v):
  be 89 #[RK a,WP e,.slice d c r,.slice v i F] b
   (Ok λq p=>∃F',q= .bool (b8.ends e s b3)/\ep p a F' (b8.Ae e s b3)/\cm f b F' p):=by
 obtain⟨o,u,E,lh,H,y,X,M,h5,Y,N,O⟩:=n.body;obtain⟨k,l,Q⟩:∃k l,b.heap[u]? =some (.map k l):=by obtain⟨k,l,n,_⟩:=X.at';exact⟨k,l,n⟩
 obtain⟨c9,d0,a6⟩:∃k l,b.heap[o]? =some (.map k l):=by obtain⟨k,l,n,_⟩:=y.at';exact⟨k,l,n⟩
 have b6:a≠u:=by rintro rfl;rw[H]at Q;cases Q
 have b7:a≠o:=by rintro rfl;rw[H]at a6;cases a6
 obtain⟨ha,hn,hc,hg,R,hB,hF⟩:=ep.Ve h5 e;refine qj ⟨a,0,rfl,some u,ae H rfl,Ao mH kI X ⟨ha,hn,hc,hg,PC.ok (Ba R L) ?_⟩⟩;rintro _ w1 ⟨w,z,S,rfl,Z,t,a7⟩;have b9:z=(b8.all e s).length:=by have:=Z.length;rw[jV,Nat.mul_one]at this;exact this.symm
 have a8:z*8<=aP:=by
  rw[b9];unfold kr.all;rw[HH];have:=R.len;have:=R.eR;have:=L.len;have:=L.eR;unfold aP at*;omega
 have a9:∀c0∈b8.all e s,aK c0:=FA R.Ah L.Ah;refine⟨w,z,S,rfl,a,0,rfl,some u,ae (t.get H id) rfl,dA mH kI (X.keep t id) λh b0 A c1=>?_⟩;have I:aH w≠some u:=λj=>by have:=a7 _ j;have:=aA Q;omega
 have b1:Own h 3 1 w z S (ints (b8.all e s)):=Z.keep A (dy.2 λv W=>by rintro rfl;exact I W);have c2:Ints h v i b3:=(hy.af t).H_ A λc3 a0 hq=>by rintro rfl;exact W c3 a0 hq N
 refine PC.ok (Oh (b1.ints a8 a9) c2) ?_;rintro _ _ ⟨rfl,rfl⟩;have T:h.heap[a]? =some (.cells #[WP b8.de,.map (some o),.map (some u)] 169 (0,0)):=A.get (t.get H id) b6;have U:bW h o (Value.int .i64) E:=(y.keep t id).keep A O;refine⟨_,rfl,?_⟩
 let F':UL:=λP=>f P\/(b.heap.size<=P/\P<w1.heap.size)
 have a1:cm f b F' h:=⟨(t.keep (S:=f)).trans A (λ_ _ n=>n) (by rintro P _ rfl;exact N),λP m=>m.imp id (·.1)⟩
 have b2:fL (Ql h F') (aI lh e (.slice w z S)) (aI b8.heard e (b8.all e s)):=by
  refine fL.aI ⟨w,z,S,rfl,b1,a8,a9,λP m=>.inr ⟨a7 P m,Z.lt m⟩⟩ (h5.mono λq ys J=>?_);refine(J.keep t (F':=f) (λ_ _ _ _ n=>n) (λ_ n=>n)).keep A (λP _ _ g=>?_) (λ_ n=>.inl n);rintro rfl;obtain⟨c4,g,I⟩:=g;rw[t.get Q id]at g;cases g;exact I _ _ rfl
 have b4:∀P,F' P->P<h.heap.size:=λP m=>by
  rw[c1];rcases m with m|m
  ·exact Qk (n.aE P m) t.size
  ·exact m.2
 have c5:ep h a F' {b8 with heard:=aI b8.heard e (b8.all e s)}:=
  ⟨⟨o,u,E,_,T,U,b0,M,b2,.inl Y,.inl N,O⟩,.inl n.self,b4,n.Kx,n.tl⟩
 have a2:(au E e).isSome=(au b8.asked e).isSome:=by
  rcases M.au e with⟨B,V⟩|⟨q,b5,B,V,_⟩<;>rw[B,V]<;>rfl
 have c6:∃P:Int,(au E e).getD (WP 0)= WP P:=by
  rcases M.au e with⟨B,V⟩|⟨q,b5,B,V,J⟩
  ·rw[B];exact⟨0,rfl⟩
  ·rw[B];exact⟨b5,J⟩
 obtain⟨k0,c7⟩:=c6;have no:b8.ends e s b3=false->Ok (λq p=>∃F',q= .bool (b8.ends e s b3)/\ep p a F' (b8.Ae e s b3)/\cm f b F' p) (.returned (.bool false)) h:=λj=>
  Ok.mk ⟨F',by rw[j],by unfold kr.Ae;rw[j];exact c5,a1⟩
 have a3:∀x,b8.ends e s b3=true->bW x o (Value.int .i64) (bQ E e)->aj (·=o) h x->x.heap.size=h.heap.size->
   Ok (λq p=>∃F',q= .bool (b8.ends e s b3)/\ep p a F' (b8.Ae e s b3)/\cm f b F' p) (.returned (.bool true)) x:=λx j hm C a5=>by
  obtain⟨d1,d2,c8⟩:∃k l,h.heap[o]? =some (.map k l):=by obtain⟨k,l,n,_⟩:=U.at';exact⟨k,l,n⟩
  refine Ok.mk ⟨F',by rw[j],?_,a1.keep.trans C (λ_ _ n=>n) (by rintro P _ rfl;exact Y),a1.new⟩;unfold kr.Ae;rw[j];refine⟨⟨o,u,_,_,C.get T b7,hm,b0.keep C (Ne.symm O),M.bQ,?_,.inl Y,.inl N,O⟩,.inl n.self,λP m=>by rw[a5];exact b4 P m,n.Kx.bQ e,λa0 hq=>n.tl a0 (gK hq)⟩;refine b2.mono λq ys J=>J.keep C (λP _ _ g=>?_) (λ_ n=>n);rintro rfl;obtain⟨c4,g,I⟩:=g;rw[c8]at g;cases g;exact I _ _ rfl
 refine⟨λp=>h=p/\b8.ends e s b3=true,⟨a,0,rfl,some o,ae T rfl,jA mA kI U ?_⟩,?_⟩
 rotate_left
 ·rintro _ _ ⟨rfl,j⟩
  exact⟨a,0,rfl,some o,ae T rfl,L_ mA kI U λx hm C a5=>a3 x j hm C a5⟩
 rw[c7];refine⟨k0,_,rfl,al.mk (λg=>?_) (λg=>al.mk (λh0=>al.mk (λy=>?_) (λy=>?_)) (λh0=>?_))⟩
 ·refine no ?_
  have:(au b8.asked e).isSome=false:=by rw[<-a2];simpa using g
  simp[kr.ends,this]
 ·refine no ?_
  have w:(lD (b8.all e s) b3==0)=false:=by simpa[bne]using h0
  have K:(lD (b8.all e s) b3==2)=false:=by simpa[bne]using y
  simp[kr.ends,HG,w,K]
 ·have j:b8.ends e s b3=true:=by
   have a4:(au b8.asked e).isSome=true:=by rw[<-a2];simpa using g
   have K:(lD (b8.all e s) b3==2)=true:=by simpa[bne]using y
   simp[kr.ends,HG,a4,K]
  exact⟨rfl,j⟩
 ·have j:b8.ends e s b3=true:=by
   have a4:(au b8.asked e).isSome=true:=by rw[<-a2];simpa using g
   have K:(lD (b8.all e s) b3==0)=true:=by simpa[bne]using h0
   simp[kr.ends,HG,a4,K]
  exact⟨rfl,j⟩
def kr.open(n:kr):List Int:=wM (n.asked.map (·.1))
def MZ(i:ep b a f b8)(c:b8.asked.length*8<=aP):
  be 93 #[RK a] b (Ok (HI b 3 b8.open)):=by
 obtain⟨j,C,p,E,q,r,F,d,H,I,J,K⟩:=i.body;refine qQ ⟨a,0,rfl,some j,ae q rfl,PC.ok (φ:=λs e=>s= .func (.func 214) #[] #[RK b.heap.size]/\ai b e/\e.heap.size=b.heap.size+1/\
  e.heap[b.heap.size]? =some (.cells #[.map (some j)] 166 (0,0))) (jk (PA.mk λt n k g=>Ok.mk ⟨rfl,n,k,g⟩)) ?_⟩
 rintro _ t ⟨rfl,n,k,g⟩;have u:∀P∈p,aK P.1:=by
  intro P v;have:P.1∈b8.asked.map (·.1):=by rw[<-d.keys];exact Xk.2 ⟨P,v,rfl⟩
  obtain⟨w,h,x⟩:=Xk.1 this;rw[<-x];exact i.tl w h
 refine⟨_,rfl,PC.ok (Af (r.af n) u (by rw[d.length];exact c) g) ?_⟩;rintro _ L ⟨l,m,o,rfl,y,z,A⟩;refine⟨l,m,o,rfl,Ok.mk ⟨l,m,o,rfl,?_,n.af z,λB c=>by have:=A B c;omega⟩⟩;unfold kr.open;rw[<-d.keys];exact y
def Kd(c:ep b a f b8):
  be 65 #[RK a] b (Ok λt k=>t= .tuple #[]/\ep k a f ⟨b8.de,[],[]⟩/\aj f b k):=by
 obtain⟨e,g,C,E,d,l,m,F,H,o,p,i⟩:=c.body;obtain⟨n,P,q⟩:∃n P,b.heap[g]? =some (.map n P):=by obtain⟨n,P,c,_⟩:=m.at';exact⟨n,P,c⟩
 obtain⟨I,J,r⟩:∃n P,b.heap[e]? =some (.map n P):=by obtain⟨n,P,c,_⟩:=l.at';exact⟨n,P,c⟩
 have u:a≠g:=by rintro rfl;rw[d]at q;cases q
 have s:a≠e:=by rintro rfl;rw[d]at r;cases r
 refine qk ⟨a,0,rfl,some e,ae d rfl,JL mA l λK v h w=>⟨a,0,rfl,some g,ae (h.get d s) rfl,JL mH (m.keep h (Ne.symm i)) λL x j y=>Ok.mk ⟨rfl,
  ⟨⟨e,g,[],[],j.get (h.get d s) u,v.keep j i,x,trivial,trivial,o,p,i⟩,c.self,λz A=>by rw[y,w];exact c.aE z A,by simp[Tidy],sM⟩,?_⟩⟩⟩
 exact h.trans j (by rintro B _ rfl;exact o) (by rintro B _ rfl;exact p)
def gw(b P:Int)(a:List Int×List (Int×Int))(n:Int):List Int×List (Int×Int):=
 if PP .i64 (P-(au a.2 n).getD 0)>=b then(a.1++[n],aI a.2 n P)else a
def kr.jw(n:kr)(P:Int)(a:Nat):List Int×List (Int×Int):=(n.open.take a).foldl (gw n.de P) ([],n.asked)
def kr.due(P:kr)(n:Int):List Int:=(P.jw n P.open.length).1
def kr.Tb(n:kr)(P:Int):kr:={n with asked:=(n.jw P n.open.length).2}
def kr.M_(P:kr)(n:Int)(b:P.open[a]? =some e):P.jw n (a+1)=gw P.de n (P.jw n a) e:=by
 unfold kr.jw;rw[Qw,b];simp
def Qd(g:ep b a f b8)(P:b8.asked.length*8<=aP):
  be 57 #[RK a,WP e] b
   (Ok λJ L=>∃M a4 a5,J= .slice M a4 a5/\Own L 3 1 M a4 a5 (ints (b8.due e))/\ep L a f (b8.Tb e)/\aj f b L/\∀n,aH M=some n->b.heap.size<=n):=by
 refine sF (PC.ok (MZ g P) ?_);rintro _ N ⟨A,k,lc,rfl,l,s,hn⟩;have b2:∀d∈b8.open,aK d:=by
  intro d B;have:d∈b8.asked.map (·.1):=(List.mergeSort_perm _ _).mem_iff.1 B;obtain⟨t,u,rfl⟩:=Xk.1 this;exact g.tl t u
 have O:k=b8.open.length:=by have:=l.length;rw[jV,Nat.mul_one]at this;exact this.symm
 have b3:b8.open.length=b8.asked.length:=by simp[kr.open,wM]
 have b4:k*8<=aP:=by rw[O,b3];exact P
 have hL:Ints N A k b8.open:=l.ints b4 b2;have b5:pI f A:=dy.2 λn P Q=>by have:=hn n P;have:=g.aE n Q;omega
 unfold aP at P;have d2:pI f none:=pI.none;refine⟨A,k,lc,rfl,λa6 v w R i m=>∃c:Nat,i=c/\c<=k/\a6=k-c/\Own m 3 1 v w R (ints (b8.jw e c).1)/\w<=c/\ep m a f {b8 with asked:=(b8.jw e c).2}/\aj f b m/\Ints m A k b8.open/\N.heap.size<=m.heap.size/\
   (∀n,aH v=some n->N.heap.size<=n),⟨_,0,rfl,Qj _,rfl,Own.nil _ _ _,Qj _,g.af s,s.keep,hL,Q4 _,by simp[aH]⟩,?_⟩
 rintro a6 v w R i _ m ⟨c,rfl,d3,rfl,S,d4,C,T,U,b6,p⟩;refine al.mk (λx=>?_) (λx=>?_)
 ·have x:=XV x
  obtain⟨n,V,d,rfl,d5,B,b7,hc⟩:=U.at (i:=(c:Int)) oM oM;rw[Qx]at B;have a7:=b8.M_ e B;obtain⟨ra,rh,YT,lh,t1,t2,t3,t4,t5,t6,t7,t8⟩:=C.body;refine⟨n,V,rfl,oM,oM,d,hc,a,0,rfl,some ra,ae t1 rfl,?_⟩;have b9:(au YT d).getD (WP 0)= WP ((au (b8.jw e c).2 d).getD 0):=by
   rcases t4.au d with⟨W,X⟩|⟨J,d6,W,X,Y⟩
   ·rw[W,X];rfl
   ·rw[W,X];exact Y
  refine⟨(au (b8.jw e c).2 d).getD 0,λc0=>?_,a,0,rfl,b8.de,ae t1 rfl,λw3 hd=>?_⟩
  ·have:=eL mA kI (t2.keep (aj.drewN (S:=λ_=>False) m c0) id) d false
   simpa[b9]using this
  have h:ai m w3:=hd.keep;refine al.mk (λo=>?_) (λo=>?_)
  ·have o:=XV o
   refine PA.mk λw4 q s4 g4=>?_;refine Nl SN ((S.af h).af q) g4 (by unfold aP at*;omega) λa' c' w5 a8 E K=>?_;refine⟨a',w+1,c',rfl,a,0,rfl,?_⟩;have c1:∀n,f n->¬(some n=aH v):=λn Q Z=>by have:=p n Z.symm;have:=g.aE n Q;have:=s.size;omega
   have y:ep w5 a f {b8 with asked:=(b8.jw e c).2}:=((C.af h).af q).keep E c1;obtain⟨j,a0,a9,a1,a2,b0,c2,c3,c4,a3,c5,b1⟩:=y.body;refine⟨some j,ae a2 rfl,dA mA kI b0 λw6 c6 r c7=>?_⟩;obtain⟨F,H,I⟩:∃F H,w5.heap[j]? =some (.map F H):=by obtain⟨F,H,g,_⟩:=b0.at';exact⟨F,H,g⟩
   have c8:a≠j:=by rintro rfl;rw[a2]at I;cases I
   have c9:ep w6 a f {b8 with asked:=aI (b8.jw e c).2 d e}:=by
    refine⟨⟨j,a0,_,a1,r.get a2 c8,c6,c2.keep r (Ne.symm b1),fL.aI (R:=ZS) rfl c3,?_,a3,c5,b1⟩,y.self,λn P=>by rw[c7];exact y.aE n P,y.Kx.aI _ _,?_⟩
    ·refine c4.mono λJ ys Y=>Y.keep r (λt _ _ l=>?_) (λ_ g=>g)
     rintro rfl;obtain⟨d7,l,d0⟩:=l;rw[I]at l;cases l;exact d0 _ _ rfl
    ·intro t u
     rcases fG u with rfl|u
     ·exact b7
     ·exact y.tl t u
   have z:b8.jw e (c+1)=((b8.jw e c).1++[d],aI (b8.jw e c).2 d e):=by rw[a7];unfold gw;rw[Zx o]
   have d1:∀n,aH a'=some n->n≠j:=λn P=>by
    rintro rfl;exact a8.VS I P
   refine⟨_,?_,c+1,?_,oM,rfl,?_,oM,by rw[z];exact c9,?_,?_,?_,?_⟩
   ·omega
   ·rw[wrap_i64 cw];simp
   ·rw[z];exact a8.keep r (dy.2 d1)
   ·refine(((T.af h).af q).new E ?_).trans r (λ_ _ g=>g) (by rintro t _ rfl;exact a3)
    intro n P;right;have:=p n P.symm;have:=s.size;omega
   ·refine(((U.af h).af q).keep E (dy.2 λn P Z=>?_)).keep r (dy.2 λn P=>?_)
    ·have:=p n Z.symm;have:=l.lt P;omega
    ·rintro rfl;exact dy.1 b5 n P a3
   ·have:=h.size;have:=q.size;have:=E.size;omega
   ·intro n P
    rcases K with K|K
    ·exact p n (K▸P)
    ·rw[K]at P;cases P;have:=h.size;have:=q.size;omega
  ·have o:=Xy o
   have z:b8.jw e (c+1)=b8.jw e c:=by rw[a7];unfold gw;rw[Zq o]
   refine⟨_,?_,c+1,?_,oM,rfl,by rw[z];exact S.af h,oM,by rw[z];exact C.af h,T.af h,U.af h,Xx b6 h.size,p⟩
   ·omega
   ·rw[wrap_i64 cw];simp
 ·have x:=Xy x
  obtain rfl:c=k:=oM
  refine Ok.mk ⟨v,w,R,rfl,?_,?_,T,λn P=>Xx s.size (p n P)⟩
  ·unfold kr.due;rw[<-O];exact S
  ·unfold kr.Tb;rw[<-O];exact C
structure bK where
 aD:Int
 uI:Int
 bj:Int
 chunk:Int
 buffer:Int
 de:Int
 every:Int
 start:Int
 decl:aR
structure bh where
 S:aq
 D:ak
 log:Option dx
 waits:List ah
 gB:kr
def fJ(n:bK)(P:Int):Bool:=
 within n.aD 1 64&&within P 0 (n.aD-1)&&within n.uI 64 262144&&decide (n.bj>=1)&&decide (n.every>=1)&&within n.chunk 1 32&&within n.buffer 1 256&&within n.de 1 1048576&&decide (n.start>=0)
section
variable (c:bK) (self:Int)
def fE(P:bh):Int×bh:=
 let n:=aU P.D c.bj
 if n.no≠0 then(n.no,{P with D:=n.D,log:=none,S:=⟨c.aD.toNat,[]⟩})
 else(0,{P with D:=n.D,log:=some n.V,S:=(⟨c.aD.toNat,[]⟩:aq).eC n.out})
def Cc:Int×bh:=fE c ⟨⟨c.aD.toNat,[]⟩,gO c.uI.toNat,none,[],⟨c.de,[],[]⟩⟩
def fg(n:aq)(P:List ah):aq:=(⟨c.aD.toNat,[]⟩:aq).eC (n.l++P)
def dt(P:bh)(b:List ah):Int×bh:=match P.log with
 |none=>(15,P)
 |some d=>
  let n:=aG d P.D b
  if n.1≠0 then(n.1,{P with log:=some n.2.1,D:=n.2.2})else
  let a:=n.2.2.sync n.2.1.last
  if a.1≠0 then(a.1,{P with log:=some n.2.1,D:=a.2})else
  (0,{P with log:=some n.2.1,D:=a.2,S:=fg c P.S b})
def eO(n:bh)(b:kv):Int×(Int×Int)×bh:=match n.log with
 |none=>(15,(0,0),n)
 |some _=>
  let P:=fP c.decl n.S (bR c.decl n.S.l) self c.start b
  if P.2.2≠0 then(P.2.2,(0,0),n)else
  if P.2.1 then(let a:=dt c n [P.1];if a.1≠0 then(a.1,(0,0),a.2)else(0,bd P.1,a.2))
  else(0,bd P.1,n)
def eX(P:bh)(n a:Int):List bD×bh:=
 if n<0\/n>=c.aD\/n=self then([],P)else([ll P.S self n],{P with gB:={P.gB with asked:=aI P.gB.asked n a}})
def pJ(a:bh)(n:Int):List bD×bh:=((a.gB.due n).map λP=>ll a.S self P,{a with gB:=a.gB.Tb n})
def gN(n:Nat):List ah->aq->List ah->List ah->aq×List ah×List ah
 |[],a,P,b=>(a,P,b)
 |e::c,a,P,b=>
  if(a.add e).1=0 then gN n c (a.add e).2 (P++[e]) b
  else if(a.add e).1=16 then gN n c a P b
  else gN n c a P (eT n b e).2
def eG:List ah->aq->List ah->aq×List ah
 |[],P,n=>(P,n)
 |e::a,P,n=>if(P.add e).1=0 then eG a (P.add e).2 (n++[e])else eG a (P.add e).2 n
def pM:Nat->aq->List ah->List ah->List ah×List ah
 |0,a,n,b=>(n,b)
 |k+1,a,n,b=>
  let P:=bJ a b
  if P.1=[]then(n,P.2)else
  let c:=eG P.1 a n
  pM k c.1 c.2 P.2
def iV(P:bh)(a:List ah):List ah×List ah:=
 let n:=gN c.buffer.toNat a (fg c P.S []) [] P.waits
 pM (n.2.2.length+1) n.1 n.2.1 n.2.2
def lE(n:bh)(a:bD):List bD×Int×bh:=
 let b:=iV c n a.events
 let n:={n with waits:=b.2}
 if b.1=[]then([Ad n.S self a.bM],0,n)else
 let P:=dt c n b.1
 if P.1≠0 then([],P.1,{P.2 with waits:=[]})else([Ad P.2.S self a.bM],0,P.2)
def cx(n:bh)(P:bD):List bD×Int×bh:=match n.log with
 |none=>([],15,n)
 |some _=>
  let no:=fh P c.aD.toNat c.chunk
  if no≠0 then([],no,n)else
  if P.nk≠self then([],1,n)else
  if P.kind=3 then lE c self n P else
  let n:={n with gB:=n.gB.Ae P.bM P.vec n.S.vec}
  if P.kind≠4 then(k_ n.S self P c.chunk,0,n)else
  let a:=n.S.missing P.vec c.chunk
  if a=[]then([],0,n)else([⟨3,self,P.bM,[],a⟩],0,n)
def gU(P:bh)(n:Int):Int×bh:=fE c {P with D:=dq (P.D.ej n),waits:=[],gB:=⟨P.gB.de,[],[]⟩}
def dN(n:bh):Int×bh:=match n.log with
 |none=>(15,n)
 |some a=>
  let P:=aS a n.D n.S.l c.bj
  if P.no≠0 then(P.no,{n with D:=P.D})else(0,{n with D:=P.D,log:=some P.V})
end
def LK:jF:=⟨[(2,[(10,WP 0)])],[],[],[],[]⟩
def LM(i:(∃f:Nat->Int->ba,(∃P,f P 0 b)/\∀(P:Nat) (n:Int) (r:Nat->Value) (g:World),f P n g->al (decide (n<(a:Int))) ((ix_ d n a λj k=>PS g (ad j (k+Int.toNat n*5+1)) (.ii e) λl=>(ix_ d n a λm o=>PS l (ad m (o+Int.toNat n*5+2)) (.ii p) λq=>(∃h,h<P/\f h (PP .i64 (n+1)) q)))) (rt y ((.slice d a c)) g))):be 155 #[.ii e,.ii p,.slice d a c] b y:=DC LK Tryz.func155 rfl i
structure KH where
 m:bD
 va:bc
 vn:Nat
 vc:Nat
 ea:bc
 en:Nat
 ec:Nat
def Pk:kq KH:=flat 5 (λn=>ef n.m n.va n.vn n.vc n.ea n.en n.ec) (λ_=>True) (λ_=>rfl) (λa b P=>by
 simp only[ef,Q2,List.not_mem_nil,or_false]at P;rcases P with rfl|rfl|rfl|rfl|rfl<;>rfl)
def KH.In(P:World)(D:UL)(n:KH):Prop:=Row aO 8 P D n.va n.vn n.m.vec/\Row jh 96 P D n.ea n.en n.m.events
def EH:jU LL 96 92 Pk.k 72:=⟨kR,kR,dC⟩
def bl(b:World)(f:List bD)(g:Value)(a:World):Prop:=
 ∃(P:bc) (d e:Nat) (c:List KH) (D:UL),g= .slice P d e/\aT Pk 92 (λn=>aH P=some n) a P d e c/\c.map (·.m)=f/\(∀n∈c,n.In a D)/\(∀n,D n->b.heap.size<=n/\n<a.heap.size/\aH P≠some n)/\(∀n,aH P=some n->b.heap.size<=n)/\ai b a
section
variable {w w':World} {p:Nat} {F D:UL} {S:aq} {a:bc} {n c:Nat}
def KH.In.keep{n:KH}(P:n.In w D)(a:aj f w w')(b:∀n,D n->¬f n):n.In w' D:=⟨P.1.keep a b,P.2.keep a b⟩
def KH.In.mono{n:KH}(P:n.In w D)(a:∀n,D n->f n):n.In w f:=⟨P.1.mono a,P.2.mono a⟩
def di{n:kq j}{bytes:Nat}(w:World)(D:UL):Row n bytes w D none 0 []:=⟨rfl,sM,λa b P=>by simp at P⟩
def bl.nil(w:World):bl w [] (.slice none 0 0) w:=⟨none,0,0,[],λ_=>False,rfl,(aT.nil w).mono (λP n=>n.elim) (λP n=>(by cases n)),rfl,sM,λP n=>n.elim,λP n=>(by cases n),aj.refl _⟩
def bl.af{h:Value}(f:bl b a7 h w)(e:ai w w'):bl b a7 h w':=by
 obtain⟨a,n,c,i,D,j,k,l,m,g,o,p⟩:=f;exact⟨a,n,c,i,D,j,k.af e,l,λP d=>(m P d).keep e λ_ _ f=>f,λP d=>⟨(g P d).1,by have:=e.size;have:=(g P d).2.1;omega,(g P d).2.2⟩,o,p.then e⟩
def bl.push(s:bl b a7 (.slice a n c) w)(L:jU h g 92 Pk.k 72){m:bD}{j k l o x:Nat}{E:UL}(M:(⟨m,d,j,k,v,l,o⟩:KH).In w E)(y:∀P,E P->b.heap.size<=P/\P<w.heap.size/\aH a≠some P)(N:w.heap[x]? =some (.cells (ef m d j k v l o).toArray 92 H))(V:a7.length<=1000){z O:ac}(t:∀f i w',bl b (a7++[m]) (.slice f (n+1) i) w'->aj (λP=>aH a=some P) w w'->z (.slice f (n+1) i) w'):
  aJ h (Builtin.append_ #[g,g] q #[.slice a n c,.slice (UV x) 1 1]) w z O:=by
 obtain⟨W,X,Y,u,D,Q,R,A,S,B,C,F⟩:=s
 cases Q
 have Z:u.length=a7.length:=by rw[<-A,Q8]
 refine fN (c:=Pk) (x:=⟨m,d,j,k,v,l,o⟩) (D:=λ_=>False) R L N ⟨rfl,trivial⟩ (λP e=>e.elim) ce (by unfold maxLen;omega) λf i w' F' p r T=>?_;have I:∀P,aH f=some P->aH a=some P\/w.heap.size<=P:=λP e=>(T P (p.self P e)).imp id λs=>s.resolve_left id;have a0:=r.size;have z7:=F.size;refine t f i w' ⟨f,n+1,i,u++[⟨m,d,j,k,v,l,o⟩],λP=>D P\/E P,rfl,(show aT Pk 92 (λP=>aH f=some P) w' f (n+1) i (u++[⟨m,d,j,k,v,l,o⟩])from p.alone),by rw[Q3,A];rfl,λP e=>?_,λP e=>?_,λP e=>?_,F.new r λP e=>.inr (C P e)⟩ r
 ·rcases Q6.1 e with e|e
  ·exact((S P e).keep r λP e=>(B P e).2.2).mono λP e=>.inl e
  ·simp at e;subst e
   exact(M.keep r λP e=>(y P e).2.2).mono λP e=>.inr e
 ·have J:b.heap.size<=P/\P<w.heap.size/\aH a≠some P:=e.elim (B P) (y P)
  exact⟨J.1,oM,λU=>(I P U).elim J.2.2 oM⟩
 ·rcases I P e with K|K
  ·exact C P K
  ·omega
def Oi{l r:Int}(z:bl b a7 (.slice a n c) w)(O:a7.length<=1000):
  be 155 #[WP l,WP r,.slice a n c] w (Ok λA w'=>bl b (a7.map λm=>{m with bM:=l,nk:=r}) A w'):=by
 obtain⟨Q,R,S,d,D,B,s,x,C,o,y,E⟩:=z
 cases B
 have T:d.length=a7.length:=by rw[<-x,Q8]
 have U:=s.len dC;obtain⟨f,i⟩:∃f:KH->KH,f=λe=>{e with m:={e.m with bM:=l,nk:=r}}:=⟨_,rfl⟩
 refine LM ⟨λm g w'=>∃P:Nat,g=P/\P<=n/\m=n-P/\aT Pk 92 (λe=>aH a=some e) w' a n c ((d.take P).map f++d.drop P)/\aj (λe=>aH a=some e) w w',⟨_,0,rfl,Qj _,rfl,by simpa using s,aj.refl _⟩,?_⟩;rintro m _ _ V ⟨P,rfl,W,rfl,t,p⟩;refine al.dec (λX=>?_) (λY=>?_)
 ·have q:d[P]? =some d[P]:=Qq oM
  have j:∃k,a=UV k:=by
   obtain⟨cs,D,F,-⟩:=s.body;rcases F.cases with⟨_,Z,_,_⟩|⟨k,H,rfl,_⟩
   ·omega
   ·exact⟨k,rfl⟩
  obtain⟨k,j⟩:=j;have u:((d.take P).map f++d.drop P)[P]? =some d[P]:=by
   rw[X8 cS];simp[Qy,X2 (show P<=d.length by omega)]
  generalize d[P]=g at q u;have I:P<((d.take P).map f++d.drop P).length:=(Qv.1 u).1;refine⟨k,0,j,oM,oM,?_⟩;rw[Qx];refine aT.set (x':={g with m:={g.m with bM:=l}}) (j:=1) t u dC rfl j λa3 J K a4=>⟨k,0,j,oM,oM,?_⟩
  refine aT.set (x:={g with m:={g.m with bM:=l}}) (x':=f g) (j:=2) J (by rw[List.getElem?_set_self I]) dC (by rw[i];rfl) j λa5 v L a6=>⟨_,?_,P+1,an oM,oM,rfl,?_,(p.then K).then L⟩
  ·omega
  ·rw[List.set_set]at v
   have M:((d.take P).map f++d.drop P).set P (f g)=(d.take (P+1)).map f++d.drop (P+1):=by
    have N:((d.take P).map f).length=P:=by simp;omega
    rw[Qw,q,Q3,XQ,List.set_append,Zq oM,N,Nat.sub_self,X4 (show P<d.length by omega)];rfl
   rw[M]at v;exact v
 ·obtain rfl:P=n:=oM
  rw[Qz oM,List.drop_eq_nil_of_le oM,List.append_nil]at t;refine Ok.mk ⟨a,P,c,d.map f,D,rfl,t,?_,λe h=>?_,λe h=>⟨(o e h).1,by have:=p.size;have:=(o e h).2.1;omega,(o e h).2.2⟩,y,E.new p λe h=>.inr (y e h)⟩
  ·rw[<-x,List.map_map,List.map_map,i];rfl
  ·obtain⟨g,q,rfl⟩:=Xk.1 h
   have:=(C g q).keep p λe h=>(o e h).2.2;rw[i];exact this
end
section
variable {w w':World} {p:Nat} {F D E:UL} {S:aq} {m:bD} {va ea:bc} {vn vc en ec:Nat}
def bl.H_{a:Value}(e:bl b a7 a w)(c:ai w' b):bl w' a7 a w:=by
 obtain⟨f,g,h,i,D,j,k,l,m,d,o,p⟩:=e;have:=c.size;exact⟨f,g,h,i,D,j,k,l,m,λn P=>⟨by have:=(d n P).1;omega,(d n P).2⟩,λn P=>by have:=o n P;omega,c.then p⟩
def bl.len(n:bl b a7 (.slice d a c) w):a=a7.length:=by
 obtain⟨g,h,i,j,D,P,e,f,-⟩:=n
 cases P
 rw[e.len dC,<-f,Q8]
def bl.sl{n:Value}(P:bl b a7 n w):∃a c d,n= .slice a c d:=by
 obtain⟨f,g,h,i,D,e,-⟩:=P;exact⟨_,_,_,e⟩
def Kc(h:cJ w p F S)(hl:S.l.length<=20000000)(Z:Row aO 8 w D va vn m.vec){b n:Int}:
  be 90 #[RK p,WP b,iK m va vn vc ea en ec,WP n] w (Ok (bl w (k_ S b m n))):=by
 have hS:=h.1;have hN:=hS.n;refine Dy (PA.mk λc o g0 x=>⟨λw'=>c=w'/\(m.kind=1\/m.kind=2),⟨_,ae x rfl,al.eP (λq=>⟨_,ae x rfl,al.eP (λe=>Ok.mk ?_) (λe=>⟨rfl,.inr e⟩)⟩) (λq=>⟨rfl,.inl q⟩)⟩,?_⟩)
 ·unfold k_;rw[Zx ⟨q,e⟩];exact(bl.nil c).H_ o
 rintro _ _ ⟨rfl,hk⟩;have b9:¬(m.kind≠1/\m.kind≠2):=oM
 obtain⟨s,K⟩:∃s,s=S.missing m.vec (max 1 (min n 32)):=⟨_,rfl⟩
 have b4:(if(if 32<n then 32 else n)>1 then(if 32<n then 32 else n)else 1)=max 1 (min n 32):=by split<;>split<;>omega
 obtain⟨f,E⟩:∃f:List bD,f=if 0<s.length then [⟨3,0,0,[],s⟩]else []:=⟨_,rfl⟩
 have g1:f.length<=1:=by rw[E];split<;>simp
 refine⟨λi j k w'=>bl c f (.slice i j k) w'/\ai c w',⟨_,_,_,ae x rfl,?_⟩,?_⟩
 ·refine PC.ok (by rw[b4];exact yT (h.af o) hl (Z.af o)) ?_
  rw[<-K];rintro _ g2 ⟨b7,n2,y,G,rfl,L,H,hG⟩;have g3:=L.len dC;have e1:=L.aE;refine⟨_,_,_,rfl,al.dec (λf7=>PA.mk λg4 M g5 e2=>?_) (λhz=>⟨?_,H⟩)⟩
  rotate_left
  ·rw[E,Zq oM]
   exact(bl.nil c).af H
  have g6:s.length<=20000000:=by
   rw[K];unfold aq.missing;rw[Qy];have:=List.length_filter_le (λg:ah=>decide (max 0 (fq m.vec g.origin)<g.seq)) S.l;omega
  refine bl.push (m:=⟨3,0,0,[],s⟩) (E:=G) ((bl.nil c).af (H.then M)) EH ⟨di _ _,(L.af M).row dC ce⟩ (λP a=>⟨by have:=hG P a;omega,by have:=e1 P a;omega,λg=>by cases g⟩) e2 sM λa' c' g7 c4 e3=>⟨_,_,_,rfl,?_,?_⟩
  ·rw[E,Zx oM];exact c4
  ·exact(H.then M).new e3 λP a=>(by cases a)
 rintro I on oc _ e4 ⟨N,O⟩;have a0:=o.then O;have e5:=O.size;refine PC.ok (mq (h.af a0)) ?_;rintro _ u ⟨a3,n3,c3,G3,rfl,c6,c7,c8⟩;have g8:=a0.size;have c9:=c6.aE;have d0:Row aO 8 u G3 a3 n3 S.vec:=c6.row dC (by rw[S.bI];unfold aP;omega);obtain⟨d,v⟩:∃d:List bD,d=if m.kind=1/\(lD m.vec S.vec=2\/lD m.vec S.vec=3)then [⟨2,0,0,S.vec,[]⟩]else []:=⟨_,rfl⟩
 have g9:d.length<=1:=by rw[v];split<;>simp
 have z:=O.then c7;have Q:∀P,aH I=some P->P<e4.heap.size:=λP a=>by
  obtain⟨a1,n1,t,a2,D,l,e,-⟩:=N
  cases l
  exact e.aE P a
 refine⟨_,_,_,rfl,λi j k w'=>bl c (f++d) (.slice i j k) w'/\w'.heap[w.heap.size]? =some (.cells (ef m va vn vc ea en ec).toArray 92 (0,0))/\ai c w',⟨_,_,_,ae (z.get x id) rfl,PC.ok (Oh ((Z.af (o.then z)).qJ) d0.qJ) ?_⟩,?_⟩
 ·rintro _ _ ⟨rfl,rfl⟩
  have R:=z.get x id;have a4:=N.af c7;have r:∀P,aH I=some P->c.heap.size<=P:=λP a=>by
   obtain⟨a1,n1,t,a2,D,l,e,A,h4,h5,T,h7⟩:=N
   cases l
   exact T P a
  have no:d=[]->bl c (f++d) (.slice I on oc) u/\u.heap[w.heap.size]? =some (.cells (ef m va vn vc ea en ec).toArray 92 (0,0))/\ai c u:=λa=>⟨by rw[a,List.append_nil];exact a4,R,z⟩
  have B:∀{ε:ac} {U:bc->Nat->Nat->ba},d=[⟨2,0,0,S.vec,[]⟩]->(∀i j k w',bl c (f++d) (.slice i j k) w'/\w'.heap[w.heap.size]? =some (.cells (ef m va vn vc ea en ec).toArray 92 (0,0))/\ai c w'->U i j k w')->
    PA u (.cells #[WP 2,WP 0,WP 0,.slice a3 n3 c3,.slice none 0 0] 92) λd1=>aJ LL (Builtin.append_ #[96,96] 96 #[.slice I on oc,.slice (UV u.heap.size) 1 1]) d1 (λe6 d2=>∃(a5:bc) (a6:Nat) (a7:Nat),e6= .slice a5 a6 a7/\U a5 a6 a7 d2) ε:=λ{ε U} a V=>by
   refine PA.mk λd1 J h8 e7=>bl.push (m:=⟨2,0,0,S.vec,[]⟩) (E:=G3) (a4.af J) EH ⟨d0.af J,di _ _⟩ (λP a=>⟨by have:=c8 P a;omega,by have:=c9 P a;omega,λg=>by have:=Q P g;have:=c8 P a;omega⟩) e7 oM λa' c' d2 d3 d4=>⟨_,_,_,rfl,V _ _ _ _ ⟨by rw[a];exact d3,d4.get (J.get R id) λg=>?_,?_⟩⟩
   ·have:=r _ g;omega
   ·exact(z.then J).new d4 λP a=>.inr (r P a)
  refine⟨_,rfl,_,ae R rfl,al.ey (λq=>al.ey (λe=>B (by rw[v,Zx ⟨q,.inl e⟩]) λi j k w' h=>h) (λe=>al.ey (λA=>B (by rw[v,Zx ⟨q,.inr A⟩]) λi j k w' h=>h) (λA=>no (by rw[v,Zq];rintro⟨-,h|h⟩;exact e h;exact A h)))) (λq=>no (by rw[v,Zq λh=>q h.1]))⟩
 rintro e8 h9 i0 _ e9 ⟨C,W,a8⟩;have d5:=o.then a8;have f2:=a8.size;have a9:=C.len;have f9:(f++d).length<=2:=by rw[QX];omega
 have b0:∀{X:List bD},(if(f++d).isEmpty then [Ad S b m.bM]else(f++d).map λb5=>{b5 with bM:=b,nk:=m.bM})=X->k_ S b m n=X:=λ{X} hq=>by
  rw[<-hq];unfold k_;rw[Zq b9,<-K];rw[E,v];have p1:(decide (lD m.vec S.vec=2\/lD m.vec S.vec=3))=decide (lD m.vec S.vec=2\/lD m.vec S.vec=3):=rfl
  by_cases t:0<s.length<;>by_cases y:m.kind=1/\(lD m.vec S.vec=2\/lD m.vec S.vec=3)
  ·simp[t,y]
  ·simp[t,y]
  ·simp[t,y]
  ·simp[t,y]
 refine al.ey (λh0=>⟨_,ae W rfl,PC.ok (JN (h.af d5)) ?_⟩) (λh0=>⟨_,ae W rfl,PC.ok (Oi C oM) ?_⟩)
 ·have l:f++d=[]:=QW oM
  rintro _ i1 ⟨b8,n5,c5,G5,rfl,d6,d7,d8⟩;have d9:=d6.aE;rw[l]at C;refine⟨_,_,_,_,_,_,_,_,_,rfl,PA.mk λi2 Y i3 f4=>?_⟩;have b1:∀P,aH e8=some P->c.heap.size<=P/\P<e9.heap.size:=λP a=>by
   obtain⟨a1,n1,t,a2,D,l,e,A,h4,h5,T,h7⟩:=C
   cases l
   exact⟨T P a,e.aE P a⟩
  refine bl.push (m:=Ad S b m.bM) (E:=G5) (C.af (d8.then Y)) EH ⟨(d6.af Y).row dC (by show S.vec.length*8<=aP;rw[S.bI];unfold aP;omega),di _ _⟩ (λP a=>⟨by have:=d7 P a;have:=d5.size;omega,by have:=d9 P a;omega,λg=>by have:=(b1 P g).2;have:=d7 P a;omega⟩) f4 sM λa' c' i4 e0 f5=>⟨_,_,_,rfl,_,ae (f5.get ((d8.then Y).get W id) λg=>by have:=(b1 _ g).1;omega) rfl,?_⟩
  refine PC.ok (Oi e0 sM) ?_;rintro b6 i5 b2;obtain⟨i,j,k,rfl⟩:=b2.sl;refine⟨_,_,_,rfl,Ok.mk ?_⟩;rw[b0 (Zx (by rw[l];rfl))];exact b2.H_ o
 ·rintro b6 i6 b3
  obtain⟨i,j,k,rfl⟩:=b3.sl;refine⟨_,_,_,rfl,Ok.mk ?_⟩;rw[b0 (Zq (by
   intro l;have:f++d=[]:=by simpa using l
   rw[this]at a9;simp at a9;omega))]
  exact b3.H_ o
end
def iM(n:kv):List Value:=[WP n.aX,WP n.agg,WP n.field,WP n.op,WP n.arg,WP n.expect,WP n.key]
abbrev A_(n:kv):Value:=.agg (iM n).toArray
def Es(n:kv):iA LL 47 (iM n)=true:=kR
section
variable {w w':World} {D:UL}
def Dq{tn m k o:Nat}(p:fy w)(h:bt w D S d tn v k)(q:∀a,D a->a<w.heap.size):
  be 96 #[.agg #[.slice d tn m,.slice v k o],A_ c6] w (Ok λe w'=>e= WP (jY S c6)/\ai w w'):=by
 refine zo (PA.mk λu r x b=>PA.mk λs l y n=>?_);have b:=l.get b id;have c:=r.then l;have P:(c6.agg<0\/c6.key<0\/c6.expect< -1)->Ok (λe w'=>e= WP (jY S c6)/\ai w w') (.returned (WP 1)) s:=λf=>Ok.mk ⟨by unfold jY;rw[Zx f],c⟩;refine⟨_,ae n rfl,al.dec (λg=>P (.inl g)) (λg=>⟨_,ae n rfl,al.dec (λi=>P (.inr (.inl i))) (λi=>⟨_,ae n rfl,al.dec (λj=>P (.inr (.inr j))) (λj=>⟨_,_,_,_,_,_,ae b rfl,ae b rfl,_,ae n rfl,_,ae n rfl,_,ae n rfl,_,ae n rfl,PC.ok (yt (p.af c) (h.af c) λa f=>by have:=q a f;omega) ?_⟩)⟩)⟩)⟩;rintro _ z ⟨rfl,t⟩;exact⟨_,rfl,Ok.mk ⟨by unfold jY;rw[Zq (by rintro(h|h|h);exact g h;exact i h;exact j h)],c.then t⟩⟩
def Gy(a:∀b∈s,aK b)(n:Int):0<=fq s n/\fq s n<=9223372036854775807:=by
 unfold fq;split
 ·omega
 ·by_cases P:n.toNat<s.length
  ·have:=a _ (XY P)
   unfold aK at this;simp only[QQ,Qq P,Option.getD_some];omega
  ·simp only[QQ,Q7 (Nat.le_of_not_lt P),Option.getD_none]
   omega
def OP(n P:List Int):(kV n P).length=max n.length P.length:=by unfold kV;rw[th]
def Uc(P a:List Int)(d:∀n∈P,aK n)(e:∀n∈a,aK n):∀n∈kV P a,aK n:=by
 intro n b;unfold kV qI at b;obtain⟨c,-,rfl⟩:=Xk.1 b;have f:=Gy d c;have g:=Gy e c;unfold aK;omega
def jP(Q:Row aO 8 w D d a s)(hl:p<=9223372036854775807)(hn:s.length<=20000000):
  be 103 #[A_ c6,WP e,.slice d a c,WP p] w (Ok λv w'=>∃d a j G,v= .tuple #[kM (aZ c6 e s p).2 d a j,WP (aZ c6 e s p).1]/\Row aO 8 w' G d a (aZ c6 e s p).2.aM/\(∀n,G n->w.heap.size<=n/\n<w'.heap.size)/\ai w w'):=by
 have a9:=Q.len;have A:=Q.qJ;refine zq (PA.mk λB k1 s1 K=>PA.mk λL R s2 S=>?_);have K:=R.get K id;have j:=k1.then R;have k:∀{m:World} {no:Int},ai L m->aZ c6 e s p=(no,sB)->nw LL 57 (RK B.heap.size) (kM sB none 0 0) m λw4=>jO LL 57 (RK B.heap.size) w4 λv=>Ok (λv w'=>∃d a j G,v= .tuple #[kM (aZ c6 e s p).2 d a j,WP (aZ c6 e s p).1]/\Row aO 8 w' G d a (aZ c6 e s p).2.aM/\(∀n,G n->w.heap.size<=n/\n<w'.heap.size)/\ai w w') (.returned (.tuple #[v,WP no])) w4:=λ{m no} C T=>
  aC (bb sB none 0 0) (C.get S id) rfl λw4 l s4 M=>ar (bb sB none 0 0) M (Ok.mk ⟨none,0,0,λ_=>False,by rw[T],by rw[T];exact Row.nil _ _,λn P=>P.elim,(j.then C).new l λn P=>.inr oM⟩)
 refine al.dec (λU=>k (aj.refl _) ?_) (λU=>al.dec (λh2=>k (aj.refl _) ?_) (λh2=>al.dec (λC=>k (aj.refl _) ?_) (λC=>PC.ok (oF (A.af j)) ?_)))
 ·unfold aZ;rw[Zx (.inl U)]
 ·unfold aZ;rw[Zx (.inr (.inl oM))]
 ·unfold aZ;rw[Zx (.inr (.inr C))]
 rintro _ _ ⟨rfl,rfl⟩;have N:¬(e<0\/(s.length:Int)<=e\/p<0):=by rintro(h|h|h)<;>omega
 refine⟨_,rfl,al.ey (λJ=>k (aj.refl _) ?_) (λJ=>al.ey (λE=>k (aj.refl _) ?_) (λE=>λm V=>?_))⟩
 ·unfold aZ;rw[Zq N,Zx (.inl J)]
 ·unfold aZ;rw[Zq N,Zx (.inr E)]
 have hg:=Gy A.Ah e;have wl:PP .i64 (p+1)=p+1:=wrap_i64 cw;have ws:PP .i64 (fq s e+1)=fq s e+1:=wrap_i64 (by unfold aK;have:fq s e≠9223372036854775807:=J;omega);have W:aZ c6 e s p=(0,⟨e,PP .i64 (fq s e+1),PP .i64 (p+1),kV s [],c6.aX,c6.agg,c6.field,c6.op,c6.arg,c6.key⟩):=by
  unfold aZ;rw[Zq N,Zq (by rintro(h|h);exact J h;exact E h),wl,ws]
 have F:ai L m:=V.keep;have s3:m.heap.size=L.heap.size:=by rw[V.heap]
 have X:=j.then F;have y:=F.get K id;have Y:=F.get S id;have jl:(kV s []).length<=20000000:=by rw[OP];simp;omega
 have jI:∀a0∈kV s [],aK a0:=Uc s [] A.Ah sM;have z:¬(m.heap.size<=w.heap.size):=oM
 have H:∀{w4 r:World} {b:bc} {g i x:Nat},ai w r->Own r 3 1 b g i (ints (kV s []))->(∀n,aH b=some n->m.heap.size<=n/\n≠x)->r.heap[B.heap.size]? =some (.cells (aF sB none 0 0).toArray 57 (0,0))->r.heap[x]? =some (.cells #[WP 0,WP 0,WP (PP .i64 (p+1)),.slice b g i,WP c6.aX,WP c6.agg,WP c6.field,WP c6.op,WP c6.arg,WP c6.key] 57 (0,0))->m.heap.size<=x->
   PS r ⟨x,0,none⟩ (WP e) λa4=>PS a4 ⟨x,0+1,none⟩ (WP (PP .i64 (fq s e+1))) λZ=>jO LL 57 (RK x) Z λa5=>nw LL 57 (RK B.heap.size) a5 Z λa2=>jO LL 57 (RK B.heap.size) a2 λa6=>Ok (λv w'=>∃d a j G,v= .tuple #[kM (aZ c6 e s p).2 d a j,WP (aZ c6 e s p).1]/\Row aO 8 w' G d a (aZ c6 e s p).2.aM/\(∀n,G n->w.heap.size<=n/\n<w'.heap.size)/\ai w w') (.returned (.tuple #[a6,WP 0])) a2:=λ{w4 r b g i x} E t o hz a7 b0=>by
  refine PS.mk a7 sM λw6 f s6 I=>PS.mk I sM λw7 O s7 g7=>?_;have a8:=O.get (f.get hz oM) oM;refine ar (cs:=aF ⟨e,PP .i64 (fq s e+1),PP .i64 (p+1),kV s [],c6.aX,c6.agg,c6.field,c6.op,c6.arg,c6.key⟩ b g i) (bb _ _ _ _) g7 (aC (bb _ _ _ _) a8 rfl λw8 k8 s8 g8=>ar (bb _ _ _ _) g8 (Ok.mk ⟨b,g,i,λn=>aH b=some n,by rw[W],?_,λn P=>⟨by have:=o n P;omega,?_⟩,?_⟩))
  ·rw[W]
   have a3:=(((t.keep f (dy.2 λn P u=>(o n P).2 u)).keep O (dy.2 λn P u=>(o n P).2 u)).keep k8 (dy.2 λn P u=>by have:=o n P;omega))
   exact(⟨⟨_,λ_=>False,a3,lv.2 ⟨rfl,jI⟩,λ_ h=>h.elim⟩,λn P=>P,λn P=>a3.lt P⟩:aT aO 3 (λn=>aH b=some n) w8 b g i (kV s [])).row dC ce
  ·have:=t.lt P;omega
  ·exact((E.new f λn P=>.inr oM).new O λn P=>.inr oM).new k8 λn P=>.inr oM
 refine⟨λn=>m.heap.size<=n,z,_,ae y rfl,z,_,ae y rfl,z,_,ae y rfl,z,_,ae y rfl,z,_,ae y rfl,z,_,ae y rfl,PC.ok (Ba ((A.af j).af F) (Ints.nil _)) ?_,PA.mk λw4 l s4 M=>⟨ai.keep l,PC.ok (Ba (((A.af j).af F).af l) (Ints.nil _)) ?_⟩⟩
 ·rintro _ w4 ⟨b,g,i,rfl,t,l,o⟩
  have z4:=l.size;refine⟨_,_,_,rfl,ai.keep l,PA.mk λr q s5 g5=>⟨ai.keep q,aC (cs:=[WP 0,WP 0,WP (PP .i64 (p+1)),.slice b g i,WP c6.aX,WP c6.agg,WP c6.field,WP c6.op,WP c6.arg,WP c6.key]) (bb ⟨0,0,PP .i64 (p+1),[],c6.aX,c6.agg,c6.field,c6.op,c6.arg,c6.key⟩ b g i) g5 rfl λw6 f s6 I=>⟨f.mono λn _ u=>oM,H (w4:=w4) (((X.then l).then q).new f λn P=>.inr oM) ((t.af q).keep f (dy.2 λn P u=>by have:=t.lt P;omega)) (λn P=>⟨o n P,by have:=t.lt P;omega⟩) (f.get (q.get (l.get Y id) id) oM) I oM⟩⟩⟩
 ·rintro _ r ⟨b,g,i,rfl,t,q,o⟩
  have z5:=q.size;refine⟨_,_,_,rfl,ai.keep q,aC (cs:=[WP 0,WP 0,WP (PP .i64 (p+1)),.slice b g i,WP c6.aX,WP c6.agg,WP c6.field,WP c6.op,WP c6.arg,WP c6.key]) (bb ⟨0,0,PP .i64 (p+1),[],c6.aX,c6.agg,c6.field,c6.op,c6.arg,c6.key⟩ b g i) (q.get M id) rfl λw6 f s6 I=>⟨f.mono λn _ u=>oM,H (w4:=w4) (((X.then l).then q).new f λn P=>.inr oM) (t.keep f (dy.2 λn P u=>by have:=o n P;omega)) (λn P=>⟨by have:=o n P;omega,by have:=o n P;omega⟩) (f.get (q.get (l.get Y id) id) oM) I oM⟩⟩
end
section
variable {w w':World} {D Fs Fv:UL} {s v:Nat} {S:aq} {V:aY} {d:aR} {c:kv} {origin start:Int}
def wL(w:World)(n:ah×Bool×Int)(c:Value)(w':World):Prop:=∃a b d G,c= .tuple #[kM n.1 a b d,.bool n.2.1,WP n.2.2]/\Row aO 8 w' G a b n.1.aM/\(∀P,G P->w.heap.size<=P/\P<w'.heap.size)/\ai w w'
def yi(d:aR)(s:aq)(v:aY)(origin start:Int)(c:kv):fP d s v origin start c=if jY d c≠0 then(sB,false,jY d c)else
  match s.keyed c.key with
  |some n=>(n,false,0)
  |none=>if¬(c.expect= -1\/c.expect=((v.state c.aX c.agg).getD ⟨0,[]⟩).version)then(sB,false,11)else
   if xf (d.at c.aX) (match v.state c.aX c.agg with|some P=>P.cells|none=>dY (d.at c.aX)) c.field c.op c.arg≠0 then(sB,false,10)else
   ((aZ c origin s.vec (max s.top start)).2,decide ((aZ c origin s.vec (max s.top start)).1=0),(aZ c origin s.vec (max s.top start)).1):=rfl
def D_{ta pa:bc}{tn tc pn pc:Nat}(hT:fy w)(hd:bt w D d ta tn pa pn)(hD:∀n,D n->n<w.heap.size)(j1:dj d=0)(hs:cJ w s Fs S)(j2:S.l.length<=20000000)(hv:cH w v Fv V)(j3:V.decl=d)(o5:start<=9223372036854775807)(o2:S.top<=9223372036854775807):
  be 61 #[.agg #[.slice ta tn tc,.slice pa pn pc],RK s,RK v,WP origin,WP start,A_ c] w (Ok (wL w (fP d S V origin start c))):=by
 refine zz (PA.mk λw1 k1 s1 g1=>PA.mk λw2 k2 s2 g2=>PA.mk λw3 k3 s3 g3=>?_);have q:=(k1.then k2).then k3;have gd:=k3.get (k2.get g1 id) id;have gc:=k3.get g2 id;have y:∀{z:World} {no:Int},ai w3 z->fP d S V origin start c=(sB,false,no)->nw LL 57 (RK w2.heap.size) (kM sB none 0 0) z λt=>jO LL 57 (RK w2.heap.size) t λr=>Ok (wL w (fP d S V origin start c)) (.returned (.tuple #[r,.bool false,WP no])) t:=λ{z no} h4 R=>
  aC (bb sB none 0 0) (h4.get g3 id) rfl λt k5 s5 g5=>ar (bb sB none 0 0) g5 (Ok.mk ⟨none,0,0,λ_=>False,by rw[R],by rw[R];exact Row.nil _ _,λn P=>P.elim,(q.then h4).new k5 λn P=>.inr oM⟩)
 refine⟨_,_,_,_,_,_,ae gd rfl,ae gd rfl,ar (Es c) gc (PC.ok (Dq (hT.af q) (hd.af q) λn P=>by have:=hD n P;omega) ?_)⟩;rintro _ z ⟨rfl,T⟩;refine⟨_,rfl,al.eP (λU=>y T (by rw[yi,Zx U])) (λe6=>⟨_,ae (T.get gc id) rfl,PC.ok (Qm (hs.af (q.then T)) j2) ?_⟩)⟩;rintro _ t ⟨W,X,Y,G5,rfl,e7,e8,k5⟩;have b6:=T.then k5;have o6:=b6.size;have A:∀{r:ah×Bool×Int},(match S.keyed c.key with
  |some k=>(k,false,0)
  |none=>if¬(c.expect= -1\/c.expect=((V.state c.aX c.agg).getD ⟨0,[]⟩).version)then(sB,false,11)else
   if xf (d.at c.aX) (match V.state c.aX c.agg with|some B=>B.cells|none=>dY (d.at c.aX)) c.field c.op c.arg≠0 then(sB,false,10)else
   ((aZ c origin S.vec (max S.top start)).2,decide ((aZ c origin S.vec (max S.top start)).1=0),(aZ c origin S.vec (max S.top start)).1))=r->fP d S V origin start c=r:=λ{r} hr=>by
  rw[yi,Zq (by simpa using e6)];exact hr
 refine cu (sx _ W X Y) ⟨_,rfl,PA.mk λw6 k6 s6 g6=>aC (bb _ W X Y) g6 rfl λl k7 s7 g7=>al.mk (λhk=>?_) (λhk=>?_)⟩
 ·obtain⟨k,R⟩:=Option.isSome_iff_exists.1 hk
  rw[R]at e7 g7 A;have b2:ai t l:=k6.new k7 λn P=>.inr oM;refine ar (bb _ W X Y) g7 (aC (bb _ W X Y) (b2.get (b6.get g3 id) id) rfl λw8 k8 s8 g8=>ar (bb _ W X Y) g8 (Ok.mk ⟨W,X,Y,G5,?_,?_,λn P=>?_,?_⟩))
  ·rw[A rfl];rfl
  ·rw[A rfl]
   exact(e7.af b2).keep k8 λn P k=>by have:=e8 n P;have:=q.size;have:=T.size;omega
  ·have:=e8 n P;have:=q.size;have:=T.size;omega
  ·exact((q.then b6).then b2).new k8 λn P=>.inr oM
 have d3:S.keyed c.key=none:=by simpa using hk
 rw[d3]at A;have b2:ai t l:=k6.new k7 λn P=>.inr oM;have L:=b6.then b2;have o7:=L.size;have b7:=q.then L;have e9:lR d c.aX c.field c.op c.arg=0:=by
  have:=e6;unfold jY at this;split at this
  ·simp at this
  ·exact this
 have j4:V.decl.at c.aX=d.at c.aX:=by rw[j3]
 obtain⟨hV,b0,hq⟩:=hv;have a6:(match V.state c.aX c.agg with|some B=>B.cells|none=>dY (d.at c.aX)).length=(d.at c.aX).length:=by
  unfold aY.state
  cases hs:au V.eS (c.aX,c.agg)with
  |none=>simp[dY]
  |some s=>rw[<-j4];exact hV.st _ (cz hs)
 obtain⟨c7,t0,t1,o8⟩:=Oj j1 e9 a6;obtain⟨C,f2⟩:∃C:Nat,c.aX=C:=⟨c.aX.toNat,oM⟩
 have j5:d.at c.aX=d.types.getD C []:=by
  unfold aR.at;rw[Zx (bN.2 ⟨t0,oM⟩),f2,Qx]
 obtain⟨tb,nk,es,j6,o9,o3,j7,fa,fn,fc,rfl,b3⟩:=(hd.af b7).aX.el C d.types[C] sM;have b3:Row tR 48 l D fa fn (d.at c.aX):=by
  rw[j5];have:d.types.getD C []=d.types[C]:=by simp[QQ,show C<d.types.length by omega]
  rw[this];exact b3
 have p0:=(hd.af b7).aX.len;have c8:=j7 0 dC;have f4:ns.k=1:=rfl;rw[f4,Nat.mul_one]at c8;have j8:=L.get gd id;have f5:=L.get gc id;refine⟨_,_,_,ae j8 rfl,_,ae f5 rfl,tb,nk,j6,t0,oM,fa,fn,fc,by rw[f2,Qx];exact c8,PA.mk λw8 k8 s8 g8=>PS.mk g8 sM λw9 k9 s9 g9=>?_⟩;have Z:ai l w9:=k8.new k9 λn P=>.inr oM;have d4:=Z.get f5 id;have d5:cH w v Fv V:=⟨hV,b0,hq⟩
 refine⟨_,ae d4 rfl,_,ae d4 rfl,PC.ok (oz (d5.af (b7.then Z))) ?_⟩;rintro _ d6 ⟨ca,cn,cc,j9,rfl,f7,o4,M⟩;have b4:=Z.then M;have f9:=b7.then b4;have p1:=b4.size;obtain⟨E,hX⟩:∃E,E=(match V.state c.aX c.agg with|some B=>B.cells|none=>dY (d.at c.aX)):=⟨_,rfl⟩
 rw[<-hX]at c7 a6 A;refine⟨_,_,_,_,_,rfl,PA.mk λp2 k0 p3 l0=>PS.mk l0 sM λp4 l3 p5 l4=>PS.mk l4 sM λg0 l5 p6 g4=>?_⟩;have a5:ai d6 g0:=(k0.new l3 λn P=>.inr oM).new l5 λn P=>.inr oM;have l6:g0.heap[l.heap.size]? =some (.cells #[.slice fa fn fc] 88 (0,0)):=a5.get (M.get g9 id) id;have c9:=f7.af a5;refine⟨λw'=>ai d6 w'/\∃ca cn cc G,w'.heap[d6.heap.size]? =some (.cells #[WP ((V.state c.aX c.agg).getD HM).version,.slice ca cn cc] 40 (0,0))/\Row gA 32 w' G ca cn E,?_,?_⟩
 ·refine al.not (al.mk (λl7=>⟨a5,ca,cn,cc,j9,g4,?_⟩) (λl8=>⟨_,_,_,ae l6 rfl,PC.ok (Im (t:=d.at c.aX) rfl b3.len (by rw[b3.len];omega)) ?_⟩))
  ·obtain⟨B,hx⟩:=Option.isSome_iff_exists.1 l7
   rw[hx]at c9 hX;have b8:E=B.cells:=hX;rw[b8];exact c9.row dC (by show B.cells.length*32<=aP;rw[<-b8,a6];unfold aP;omega)
  ·rintro _ p7 ⟨b1,n6,c6,G6,rfl,l9,d7,m0⟩
   have p8:=d7.size;refine⟨_,_,_,rfl,PS.mk (d7.get g4 id) sM λp9 h3 q0 m1=>⟨(a5.then d7).new h3 λn P=>.inr oM,b1,n6,c6,G6,m1,?_⟩⟩;have hn:V.state c.aX c.agg=none:=by simpa using l8
   rw[hn]at hX;have b8:E=dY (d.at c.aX):=hX;rw[b8];exact(l9.keep h3 λn P k=>by have:=m0 n P;omega).row dC (by unfold aP dY;simp;omega)
 rintro _ m2 ⟨m3,q1,q2,q3,G2,h5,h8⟩;refine PA.mk λh9 d8 q4 m4=>?_;have F:=m3.then d8;have m5:=F.size;have d0:=f9.then F;have i0:=d8.get h5 id;have i1:=F.get (M.get d4 id) id;have i2:=F.get (M.get g9 id) id;have i3:=(((L.then Z).then M).then F).get g3 id;have m:∀{z:World} {no:Int},ai h9 z->fP d S V origin start c=(sB,false,no)->nw LL 57 (RK w2.heap.size) (kM sB none 0 0) z λt=>jO LL 57 (RK w2.heap.size) t λr=>Ok (wL w (fP d S V origin start c)) (.returned (.tuple #[r,.bool false,WP no])) t:=λ{z no} h4 R=>y (((L.then Z).then M).then (F.then h4)) R;refine⟨λa9 c0 w'=>∃H:Nat,c0=H/\H<=2/\a9=2-H/\ai h9 w'/\(1<=H->c.expect= -1\/c.expect=((V.state c.aX c.agg).getD ⟨0,[]⟩).version)/\(2<=H->xf (d.at c.aX) E c.field c.op c.arg=0),⟨_,0,rfl,oM,rfl,aj.refl _,λh=>oM,λh=>oM⟩,?_⟩;rintro a9 _ _ I ⟨H,rfl,hj,rfl,i,d9,m6⟩;have d1:=i.get i0 id;have a0:=i.get i1 id;have i4:=i.get i2 id;have d2:=i.get m4 id;refine al.dec (λq5=>⟨m2.heap.size,0,rfl,oM,oM,?_⟩) (λq6=>?_)
 ·have m7:H=0\/H=1:=oM
  rcases m7 with rfl|rfl
  ·refine⟨_,ae d2 rfl,_,_,_,rfl,kR,PC.ok (φ:=λv w'=>v= WP (if c.expect= -1\/c.expect=((V.state c.aX c.agg).getD ⟨0,[]⟩).version then 0 else 11)/\I=w') (vq ⟨_,ae a0 rfl,al.ey (λh1=>Ok.mk ⟨by rw[Zx (.inl h1)],rfl⟩) (λh1=>⟨_,ae a0 rfl,_,ae d1 rfl,al.ey (λh2=>Ok.mk ⟨by rw[Zx (.inr h2)],rfl⟩) (λh2=>Ok.mk ⟨by rw[Zq (by rintro(h|h);exact h1 h;exact h2 h)],rfl⟩)⟩)⟩) ?_⟩
   rintro _ _ ⟨rfl,rfl⟩
   by_cases hx:c.expect= -1\/c.expect=((V.state c.aX c.agg).getD ⟨0,[]⟩).version
   ·rw[Zx hx]
    exact⟨_,rfl,al.ff rfl ⟨_,oM,1,rfl,oM,rfl,i,λ_=>hx,λh=>oM⟩⟩
   ·rw[Zq hx]
    exact⟨_,rfl,al.tt rfl (m i (A (by rw[Zx hx])))⟩
  ·refine⟨_,ae d2 rfl,_,_,_,rfl,kR,PC.ok (φ:=λv w'=>v= WP (xf (d.at c.aX) E c.field c.op c.arg)/\ai I w') (vr ⟨_,_,_,ae i4 rfl,_,_,_,ae d1 rfl,_,ae a0 rfl,_,ae a0 rfl,_,ae a0 rfl,PC.ok (Il c7 ((b3.af (b4.then F)).af i) ((h8.af d8).af i)) ?_⟩) ?_⟩
   ·rintro _ m8 ⟨rfl,b9⟩
    exact⟨_,rfl,Ok.mk ⟨rfl,b9⟩⟩
   ·rintro _ m8 ⟨rfl,b9⟩
    refine⟨_,rfl,al.eP (λU=>m (i.then b9) (A ?_)) (λh0=>⟨_,oM,2,rfl,oM,rfl,i.then b9,λ_=>d9 oM,λ_=>h0⟩)⟩;have m9:xf (d.at c.aX) E c.field c.op c.arg=10:=by
     rw[Gf]at U⊢;split at U
     ·simp at U
     ·rename_i hq;rw[Zq hq]
    rw[Zq (λh=>h (d9 oM)),Zx U,m9]
 have i5:=A (r:=((aZ c origin S.vec (max S.top start)).2,decide ((aZ c origin S.vec (max S.top start)).1=0),(aZ c origin S.vec (max S.top start)).1)) (by rw[Zq (λh=>h (d9 oM)),Zq (by rw[m6 oM];simp)]);have J:(if start>S.top then start else S.top)=max S.top start:=by split<;>omega
 have c1:(if start>S.top then start else S.top)<=9223372036854775807:=by split<;>omega
 refine⟨λeb eo no w'=>eo=0/\no=(aZ c origin S.vec (max S.top start)).1/\ai I w'/\∃a2 a3 a7 G,w'.heap[eb]? =some (.cells (aF (aZ c origin S.vec (max S.top start)).2 a2 a3 a7).toArray 57 (0,0))/\Row aO 8 w' G a2 a3 (aZ c origin S.vec (max S.top start)).2.aM/\∀n,G n->I.heap.size<=n/\n<w'.heap.size,?_,?_⟩
 rotate_left
 ·rintro eb _ no _ q7 ⟨rfl,rfl,e0,a,b,e,p,ge,u,f⟩
  have i6:=e0.get (i.get i3 id) id;have zk:=i.size;have q8:=e0.size;have zw:=q.size;refine ar (bb _ a b e) ge (aC (bb _ a b e) i6 rfl λq9 i7 r0 n0=>ar (bb _ a b e) n0 (Ok.mk ⟨a,b,e,p,?_,?_,λn P=>?_,?_⟩))
  ·rw[i5];rfl
  ·rw[i5];exact u.keep i7 λn P k=>by have:=f n P;omega
  ·have:=f n P;omega
  ·exact(((d0.then i).then e0)).new i7 λn P=>.inr oM
 ·intro N i8
  have e1:ai I N:=i8.keep;have r3:N.heap.size=I.heap.size:=by rw[i8.heap]
  have i9:=e1.get a0 id;have a4:=hs.af ((d0.then i).then e1);have zk:=i.size;have hn:=hs.1.n;have c2:S.vec.length<=20000000:=by rw[S.bI];omega
  have c3:S.vec.length*8<=aP:=by unfold aP;omega
  have x:∀{wE w6 l:World} {a1:Nat} {a:bc} {b e:Nat} {p:UL},ai N wE->Row aO 8 wE p a b (aZ c origin S.vec (max S.top start)).2.aM->(∀n,p n->N.heap.size<=n/\n<wE.heap.size/\n≠a1)->ai wE w6->N.heap.size<=a1->aj (λn=>n=a1) w6 l->l.heap.size=w6.heap.size->l.heap[a1]? =some (.cells (aF (aZ c origin S.vec (max S.top start)).2 a b e).toArray 57 (0,0))->
    (λ(eb eo:Nat) (no:Int) (w':World)=>eo=0/\no=(aZ c origin S.vec (max S.top start)).1/\ai I w'/\∃a2 a3 a7 G,w'.heap[eb]? =some (.cells (aF (aZ c origin S.vec (max S.top start)).2 a2 a3 a7).toArray 57 (0,0))/\Row aO 8 w' G a2 a3 (aZ c origin S.vec (max S.top start)).2.aM/\∀n,G n->I.heap.size<=n/\n<w'.heap.size) a1 0 (aZ c origin S.vec (max S.top start)).1 l:=λ{wE w6 l a1 a b e p} hE hr hG h6 hg h7 r4 n1=>by
   have z6:=h6.size;exact⟨rfl,rfl,((e1.then hE).then h6).new h7 λn P=>.inr oM,a,b,e,p,n1,(hr.af h6).keep h7 λn P k=>(hG n P).2.2 k,λn P=>by have:=hG n P;omega⟩
  have zc:¬(N.heap.size<=w1.heap.size):=by
   have h1:=((((k3.then L).then Z).then M).then F).size;omega
  refine⟨λn=>N.heap.size<=n,zc,ar (Es c) i9 ⟨PC.ok (mq a4) ?_,PA.mk λr5 c4 r6 n2=>⟨ai.keep c4,PC.ok (mq (a4.af c4)) ?_⟩⟩⟩
  ·rintro _ n3 ⟨av,nv,cv,a8,rfl,b5,j,n4⟩
   have n8:=j.size;refine⟨_,_,_,rfl,ai.keep j,PC.ok (HJ (a4.af j)) ?_,PA.mk λn9 K o0 e2=>⟨ai.keep K,PC.ok (HJ ((a4.af j).af K)) ?_⟩⟩
   ·rintro _ _ ⟨rfl,rfl⟩
    refine⟨_,rfl,aj.refl _,?_,?_⟩
    ·rw[J]
     refine PC.ok (jP (b5.row dC c3) (by rw[<-J];exact c1) c2) ?_;rintro _ e3 ⟨a,b,e,p,rfl,u,f,g⟩;have e4:=g.size;exact cu (sx _ a b e) ⟨_,rfl,ai.keep g,PA.mk λr7 j0 r8 o1=>⟨ai.keep j0,aC (bb _ a b e) o1 rfl λe5 o O Q=>⟨o.mono λn _ k=>oM,x (j.then g) u (λn P=>⟨by have:=f n P;omega,(f n P).2,by have:=f n P;omega⟩) j0 oM o O Q⟩⟩⟩
    ·refine PA.mk λn9 K o0 e2=>⟨ai.keep K,?_⟩
     rw[J];refine PC.ok (jP ((b5.af K).row dC c3) (by rw[<-J];exact c1) c2) ?_;rintro _ e3 ⟨a,b,e,p,rfl,u,f,g⟩;have e4:=g.size;exact cu (sx _ a b e) ⟨_,rfl,ai.keep g,aC (bb _ a b e) (g.get e2 id) rfl λe5 o O Q=>⟨o.mono λn _ k=>oM,x ((j.then K).then g) u (λn P=>⟨by have:=f n P;omega,(f n P).2,by have:=f n P;omega⟩) (aj.refl _) oM o O Q⟩⟩
   ·rintro _ _ ⟨rfl,rfl⟩
    refine⟨_,rfl,aj.refl _,?_⟩;refine PC.ok (by rw[J];exact jP ((b5.af K).row dC c3) (by rw[<-J];exact c1) c2) ?_;rintro _ e3 ⟨a,b,e,p,rfl,u,f,g⟩;have e4:=g.size;exact cu (sx _ a b e) ⟨_,rfl,ai.keep g,aC (bb _ a b e) (g.get e2 id) rfl λe5 o O Q=>⟨o.mono λn _ k=>oM,x ((j.then K).then g) u (λn P=>⟨by have:=f n P;omega,(f n P).2,by have:=f n P;omega⟩) (aj.refl _) oM o O Q⟩⟩
  ·rintro _ n3 ⟨av,nv,cv,a8,rfl,b5,j,n4⟩
   have n8:=j.size;refine⟨_,_,_,rfl,ai.keep j,PC.ok (HJ ((a4.af c4).af j)) ?_⟩;rintro _ _ ⟨rfl,rfl⟩;refine⟨_,rfl,aj.refl _,?_⟩;refine PC.ok (by rw[J];exact jP (b5.row dC c3) (by rw[<-J];exact c1) c2) ?_;rintro _ e3 ⟨a,b,e,p,rfl,u,f,g⟩;have e4:=g.size;exact cu (sx _ a b e) ⟨_,rfl,ai.keep g,aC (bb _ a b e) ((j.then g).get n2 id) rfl λe5 o O Q=>⟨o.mono λn _ k=>oM,x ((c4.then j).then g) u (λn P=>⟨by have:=f n P;omega,(f n P).2,by have:=f n P;omega⟩) (aj.refl _) oM o O Q⟩⟩
end
structure km where
 ta:bc
 tn:Nat
 tc:Nat
 pa:bc
 pn:Nat
 pc:Nat
 dp:Nat
 lp:bc
 sp:Nat
 bp:Nat
 wp:Nat
 tp:Nat
abbrev km.cells(n:km)(P:bK)(a:Int):Array Value:= #[WP P.aD,WP P.uI,WP P.bj,WP P.chunk,WP P.buffer,WP P.de,WP P.every,WP P.start,.slice n.ta n.tn n.tc,.slice n.pa n.pn n.pc,WP a,
 RK n.dp,.pointer n.lp,RK n.sp,RK n.bp,RK n.wp,RK n.tp]
def DL(b:World)(G:UL)(c:Nat)(d:bc)(D:ak)(P:Option dx):Prop:=
 ∃a,aV b c a D/\(∀n,a n->G n)/\match P with
  |none=>d=none
  |some e=>e.bf≠[]/\∃f g,d=some ⟨f,0,none⟩/\jt b c f g e/\∀n,g n->G n/\¬a n
def Pu(b:World)(G:UL)(c:Nat)(n:Nat)(d:List ah):Prop:=∃a D,ij b c a D n d/\(∀P,a P->G P)/\∀P,D P->G P
def mi(c:Nat)(d:Array Value)(P:km)(b:bK)(a:bh)(e:List ah):Nat->World->(UL)->Prop
 |0=>λn G=>G c/\n.heap[c]? =some (.cells d 116 (0,0))
 |1=>λn G=>bt n G b.decl P.ta P.tn P.pa P.pn
 |2=>λn G=>DL n G P.dp P.lp a.D a.log
 |3=>λn G=>cJ n P.sp G a.S/\a.S.Cl/\a.S.n=b.aD.toNat
 |4=>λn G=>c_ n P.bp G b.decl b.every.toNat e
 |5=>λn G=>Pu n G P.wp b.buffer.toNat a.waits
 |6=>λn G=>ep n P.tp G a.gB
 |_=>λ_ _=>True
section
variable {w w' w0:World} {p:Nat} {F G T:UL} {cls:Nat->Nat} {h:km} {c:bK} {self:Int} {X:bh} {dp:Nat} {lp:bc} {D:ak} {log:Option dx}
def DL.keep(h:DL w G dp lp D log)(a:aj T w w')(b:∀n,G n->¬T n):DL w' G dp lp D log:=by
 obtain⟨f,g,c,d⟩:=h;refine⟨f,g.keep a λn P=>b n (c n P),c,?_⟩
 cases log with
 |none=>exact d
 |some o=>
  obtain⟨i,j,k,l,m,e⟩:=d;exact⟨i,j,k,l,m.keep a λn P=>b n (e n P).1,e⟩
def cg:mj (mi p o h c X I):=by
 intro k w w' G T n a P
 match k,n with
 |0,n=>exact⟨n.1,a.get n.2 (P p n.1)⟩
 |1,n=>exact bt.keep n a P
 |2,n=>exact DL.keep n a P
 |3,n=>exact⟨cJ.keep n.1 a P,n.2⟩
 |4,n=>exact c_.keep n a P
 |5,n=>obtain⟨g,D,i,e,f⟩:=n;exact⟨g,D,i.keep a (λb d=>P b (e b d)) λb d=>P b (f b d),e,f⟩
 |6,n=>exact ep.keep n a P
 |k+7,n=>trivial
structure jW (c:bK) (me:Int):Prop where
 right:fJ c me=true
 decl:dj c.decl=0
 seg:aK c.bj
 every:aK c.every
 start:aK c.start
structure Env (w0 w:World) (F:UL):Prop where
 p_:fy w0
 laid:Laid w0
 gr:ai w0 w
 aE:∀b,F b->w0.heap.size<=b
def Env.nh(h:Env w0 w F)(a:cm F w f w'):Env w0 w' f:=⟨h.p_,h.laid,h.gr.new a.keep λn P=>.inr (h.aE n P),λn P=>(a.new n P).elim (h.aE n) λb=>by have:=h.gr.size;omega⟩
def Env.af(h:Env w0 w F)(n:ai w w'):Env w0 w' F:=⟨h.p_,h.laid,h.gr.then n,h.aE⟩
abbrev cQ(w:World)(F:UL)(cls:Nat->Nat)(p:Nat)(h:km)(c:bK)(self:Int)(X:bh):Prop:=bg w F cls (mi p (h.cells c self) h c X X.S.l)
def bX(w:World)(p:Nat)(F:UL)(c:bK)(self:Int)(X:bh):Prop:=jW c self/\∃h cls,cQ w F cls p h c self X
def cQ.af(n:cQ w F cls p h c self X)(P:ai w w'):cQ w' F cls p h c self X:=bg.af n cg P
def cQ.bw(n:cQ w F cls p h c self X):w.heap[p]? =some (.cells (h.cells c self) 116 (0,0)):=(n.at' 0).2
def cQ.J_(n:cQ w F cls p h c self X):F p/\cls p=0:=(n.at' 0).1
def bX.keep(P:bX w p F c self X)(a:aj T w w')(b:∀n,F n->¬T n):bX w' p F c self X:=by
 obtain⟨d,h,cls,e⟩:=P;exact⟨d,h,cls,bg.keep e cg a b⟩
def bX.af(n:bX w p F c self X)(P:ai w w'):bX w' p F c self X:=n.keep P λ_ _ h=>h
def bX.aE(P:bX w p F c self X):∀n,F n->n<w.heap.size:=by obtain⟨b,h,cls,a⟩:=P;exact a.aE
def cQ.store{a:km}(n:bg w F cls (mi p o a c X I))(d:aj (·=p) w w')(e:w'.heap[p]? =some (.cells Y 116 (0,0))):bg w' F cls (mi p Y a c X I):=by
 refine bg.same n cg (k:=0) (d.mono λf _ P=>by have P:f=p:=P;exact P▸(n.at' 0).1) ⟨(n.at' 0).1,e⟩ λb G g h=>?_;rcases b with _|_|_|_|_|_|_|b<;>first|exact h|exact Zz rfl g
def DL.PX(g:DL w G dp lp D (some b4))(c:Env w0 w G)(l:∀n,G n->n<w.heap.size):∃b,lp=UV b/\b4.bf≠[]/\cF w0 w dp b b4 D (λn=>n<w.heap.size/\¬G n):=by
 obtain⟨h,i,e,j,b,k,rfl,f,d⟩:=g;refine⟨b,rfl,j,k,⟨h,i,c.gr,λn P=>⟨c.aE n (e n P),λa=>?_⟩,λn P=>?_⟩,f,λn P=>⟨c.aE n (d n P).1,λa=>a.2 (d n P).1⟩⟩
 ·rcases a with a|a
  ·exact a.2 (e n P)
  ·exact(d n a).2 P
 ·rcases P with P|P
  ·exact P.1
  ·exact f.aE n P
def DL.uI(c:DL w G dp lp D log)(a:Env w0 w G):a_ w0 w dp D (λn=>n<w.heap.size/\¬G n):=by
 obtain⟨d,e,b,-⟩:=c;exact⟨d,e,a.gr,λn P=>⟨a.aE n (b n P),λf=>f.2 (b n P)⟩,λn P=>P.1⟩
def DL.Hw{Y:UL}(l:cF w0 w' dp a b4 D (λn=>(n<w.heap.size/\¬G n)\/Y n))(m:aj (dT λn=>n<w.heap.size/\¬G n) w w')(o:b4.bf≠[]):∃c,DL w' c dp (UV a) D (some b4)/\cm G w c w'/\(∀n,c n->n<w'.heap.size)/\∀n,c n->¬Y n:=by
 obtain⟨f,⟨g,h,r,d,s⟩,i,j⟩:=l;have e:∀n,¬(n<w.heap.size/\¬G n)->G n\/w.heap.size<=n:=λn P=>by
  rcases Nat.lt_or_ge n w.heap.size with b|b
  ·exact .inl (Classical.byContradiction λp=>P ⟨b,p⟩)
  ·exact .inr b
 refine⟨λn=>g n\/f n,⟨g,h,λn P=>.inl P,o,a,f,rfl,i,λn P=>⟨.inr P,λq=>(d n q).2 (.inr P)⟩⟩,⟨m.mono λn t P=>(e n P).resolve_right oM,λn P=>?_⟩,λn P=>?_,λn P k=>?_⟩
 ·rcases P with P|P
  ·exact e n λb=>(d n P).2 (.inl (.inl b))
  ·exact e n λb=>(j n P).2 (.inl b)
 ·exact P.elim (h.aE n) (i.aE n)
 ·rcases P with P|P
  ·exact(d n P).2 (.inl (.inr k))
  ·exact(j n P).2 (.inr k)
def DL.Oc{Y:UL}(g:a_ w0 w' dp D (λn=>(n<w.heap.size/\¬G n)\/Y n))(h:aj (dT λn=>n<w.heap.size/\¬G n) w w'):∃b,DL w' b dp none D none/\cm G w b w'/\(∀n,b n->n<w'.heap.size)/\∀n,b n->¬Y n:=by
 obtain⟨c,d,k,e,l⟩:=g;have f:∀n,¬(n<w.heap.size/\¬G n)->G n\/w.heap.size<=n:=λn P=>by
  rcases Nat.lt_or_ge n w.heap.size with a|a
  ·exact .inl (Classical.byContradiction λi=>P ⟨a,i⟩)
  ·exact .inr a
 exact⟨c,⟨c,d,λn P=>P,rfl⟩,⟨h.mono λn m P=>(f n P).resolve_right oM,λn P=>f n λa=>(e n P).2 (.inl a)⟩,λn P=>d.aE n P,λn P j=>(e n P).2 (.inr j)⟩
end
def Kh{D:ak}(P:b4.bf≠[]):(aN b4 D).2.1.bf≠[]:=by
 have b:∀n:ak,(mZ b4 n).2.1.bf≠[]:=by
  intro n;unfold mZ;dsimp only;split
  ·exact P
  ·split
   ·exact P
   ·simp
 have a:∀n:ak,(bz b4 n).2.1.bf≠[]:=by
  intro n;unfold bz;dsimp only;split
  ·exact P
  ·exact b _
 unfold aN;dsimp only;split
 ·exact a D
 ·split
  ·exact P
  ·exact a _
def Hz{D:ak}{l:List ah}(n:b4.bf≠[]):(aG b4 D l).2.1.bf≠[]:=by
 unfold aG;dsimp only;have P:(if b4.size<=b4.bytes then aN b4 D else(0,b4,D)).2.1.bf≠[]:=by
  split
  ·exact Kh n
  ·exact n
 generalize(if b4.size<=b4.bytes then aN b4 D else(0,b4,D))=a at P⊢;split
 ·exact n
 split
 ·exact n
 split
 ·exact P
 split
 ·exact P
 ·exact P
def SZ(c:Row jh 96 b f d a I):∀n∈I,n.Ok:=λn e=>by
 obtain⟨P,g,rfl⟩:=List.getElem_of_mem e;obtain⟨i,j,k,-,-,-,-,l,m,o,-,-,h⟩:=c.el P I[P] (Qq g);exact h
def aq.Ki:∀{l:List ah} {S:aq} {n:ah},n∈S.l->n∈(S.eC l).l
 |[],S,n,P=>P
 |e::l,S,n,P=>aq.Ki (l:=l) (S:=(S.add e).2) (by
  rcases S.eU e with⟨-,a⟩|⟨b,-⟩
  ·rw[a];exact P
  ·rw[b];exact(cO e S.l).mem_iff.2 (QJ _ P))
def wg{n:bK}(a:B.Cl)(b:B.n=n.aD.toNat)(P:List ah):fg n B P=B.eC P:=by
 unfold fg;rw[aq.AR,<-b,a.VY]
section
variable {w w' w0:World} {p:Nat} {F E T:UL} {cls:Nat->Nat} {h:km} {c:bK} {self:Int} {X:bh} {evs:List ah} {ea:bc} {en ec:Nat}
def jW.aD(n:jW c self):c.aD=(c.aD.toNat:Int)/\c.aD.toNat<=64/\1<=c.aD.toNat:=by
 have:=n.right;unfold fJ within at this;simp only[QK,Zk]at this;omega
def Kj(s:cQ w F cls p h c self X)(b0:jW c self)(hr:Row jh 96 w E ea en evs)(t:∀n,E n->n<w.heap.size)(hl:X.S.l.length+evs.length<=20000000):
  be 107 #[RK p,.slice ea en ec] w (Ok λa0 w'=>∃L b,a0= RK L/\cJ w' L b (fg c X.S evs)/\(∀n,b n->w.heap.size<=n)/\ai w w'):=by
 obtain⟨b1,b2,c6⟩:=b0.aD;have fQ:=(s.at' 3).1;refine oR ⟨p,0,rfl,_,ae s.bw rfl,?_⟩;rw[b1];refine PC.ok (F_ b2) ?_;rintro _ w7 ⟨u,j,rfl,M,v,k⟩;have f:=cQ.af s k;refine⟨_,rfl,p,0,rfl,_,ae f.bw rfl,PC.ok (sd (fQ.af k) oM) ?_⟩;rintro _ c7 ⟨a2,x,c1,G,rfl,g,y,l⟩;have N:=M.aE;have c8:=g.aE;have z7:=k.size;have c9:=y.size;have O:=k.then y;refine⟨_,_,_,rfl,vW g HR (hr.af O) (λn P=>⟨by have:=t n P;omega,λz=>by have:=t n P;have:=l n (g.self n z);omega⟩) ce (by unfold maxLen;omega) λa' c' m Q A B b3 _=>⟨_,_,_,rfl,?_⟩⟩;have b4:=A.len dC;have d0:=B.size;rw[QX]at b4;have a3:Row jh 96 m Q a' (x+en) (X.S.l++evs):=A.row dC (by rw[QX];unfold aP;omega);have R:=A.aE;have S:∀n,Q n->¬j n:=λn P o=>by
  have d:=v n o;have h6:=N n o;rcases b3 n P with f|f|f
  ·have:=l n f;omega
  ·have:=t n f;omega
  ·omega
 have a4:ai w m:=O.new B λn P=>.inr (by have:=l n (g.self n P);omega);have a5:=(M.af y).keep B λn P z=>by have:=N n P;have:=l n (g.self n z);omega
 refine⟨λT C w'=>∃(a:Nat) (b:UL),C=a/\a<=x+en/\T=x+en-a/\cJ w' u b ((⟨c.aD.toNat,[]⟩:aq).eC ((X.S.l++evs).take a))/\(∀n,b n->j n\/m.heap.size<=n)/\aj j m w',⟨_,0,j,rfl,Qj _,rfl,a5,λn P=>.inl P,aj.refl _⟩,?_⟩;rintro T _ _ U ⟨a,b,rfl,hj,rfl,H,q,r⟩;have d1:=r.size;refine al.dec (λd2=>?_) (λd3=>?_)
 ·obtain⟨e,V⟩:∃e,(X.S.l++evs)[a]? =some e:=⟨_,Qq (by rw[QX];omega)⟩
  obtain⟨n,a1,es,ha,d4,d5,b5,I,J,K,rfl,b6,a7⟩:=(a3.keep r S).el a e V;refine⟨n,a1,ha,oM,oM,bT (es:=aF e I J K) (k:=10) (bb _ _ _ _) rfl (λC ht=>by rw[Qx];exact b5 C ht) (PA.mk λd6 b7 d7 b8=>aC (bb e I J K) b8 rfl λb9 c2 d8 c3=>ar (bb e I J K) c3 ?_)⟩;have i:ai U b9:=b7.new c2 λn P=>.inr (by have P:n=U.heap.size:=P;omega);have W:=aq.nz ((X.S.l++evs).take a) ⟨c.aD.toNat,[]⟩;rw[Qy,QX]at W;simp only[ZQ]at W;refine PC.ok (uX (H.af i) (b6.af i) (λn P=>⟨by have:=R n P;have:=i.size;omega,λo=>?_⟩) a7 oM) ?_
  ·rcases q n o with d|d
   ·exact S n P d
   ·have:=R n P;omega
  rintro _ c4 ⟨rfl,Y,c5,Z⟩;refine⟨_,rfl,_,oM,a+1,Y,an oM,oM,rfl,?_,λn P=>?_,(r.af i).new Z.keep λn P=>q n P⟩
  ·rw[Qw,V]
   show cJ c4 u Y (aq.eC _ ((X.S.l++evs).take a++[e]));rw[aq.nB];exact c5
  ·rcases Z.new n P with d|d
   ·exact q n d
   ·have:=i.size;exact .inr oM
 ·rw[Qz (by rw[QX];omega)]at H
  exact Ok.mk ⟨u,b,rfl,H,λn P=>(q n P).elim (v n) λd=>oM,a4.new r λn P=>.inr (v n P)⟩
end
section
variable {w w' w0:World} {p:Nat} {F E T:UL} {cls:Nat->Nat} {h:km} {c:bK} {self:Int} {X:bh} {evs lB:List ah} {ea:bc} {en ec:Nat}
def Env.sub(P:Env w0 w F)(a:∀n,f n->F n):Env w0 w f:=⟨P.p_,P.laid,P.gr,λn b=>P.aE n (a n b)⟩
def S_(n:B.OK)(a:l∈B.l)(b:M∈B.l)(c:bd l=bd M):l=M:=by
 have P:=n.get a;have d:=n.get b;rw[c,d]at P;exact(XJ P).symm
def CE(v:bg w F cls (mi p (h.cells c self) h c X lB))(j:Env w0 w F)(R:∀(x:Nat) (l m:ah),lB[x]? =some l->X.S.l[x]? =some m->bd l=bd m->l=m)(y:X.S.l.length<=20000000){κ:ac}(o:∀w' f P,cQ w' f P p h c self X->cm F w f w'->κ (WP 0) w'):
  ∀pW,bH w pW->∃q:UL,(∃r z,(UV p:bc)=some ⟨r,z,none⟩/\(¬q r/\(∃(A:bc),pW.cell? ⟨r,z+14,none⟩=some (.pointer A)/\(∃B C,(UV p:bc)=some ⟨B,C,none⟩/\(∃(E:bc),pW.cell? ⟨B,C+13,none⟩=some (.pointer E)/\
   PC LL 45 #[.pointer E] pW (λS b=>∃(H:bc) (I:Nat) (J:Nat),S= .slice H I J/\(aj q pW b/\PC LL 85 #[.pointer A,.slice H I J] b (λT g=>∃(U:Int),T= WP U/\(aj q b g/\κ (WP 0) g)) a6)) h9))))):=by
 intro pW V;have s:ai w pW:=V.keep;have i:=bg.af v cg s;have K:=(i.at' 0).2;refine⟨λn=>F n/\cls n=4,p,0,rfl,λW=>?_,_,ae K rfl,p,0,rfl,_,ae K rfl,PC.ok (sd (show cJ pW h.sp (λn=>F n/\cls n=3) X.S from(i.at' 3).1) y) ?_⟩
 ·have:=W.2
  have Y:=(show(F p/\cls p=0)/\_ from v.at' 0).1.2;rw[Y]at this;cases this
 rintro _ b ⟨a2,a3,cc,G,rfl,t,e,Z⟩;have b5:=e.size;have a0:=i.aE;have L:=bg.af i cg e;have a8:=t.ly;have a1:c_ b h.bp (λn=>F n/\cls n=4) c.decl c.every.toNat lB:=L.at' 4;refine⟨_,_,_,rfl,ai.keep e,PC.ok (HV a1 j.p_ ((j.gr.then s).then e) (λn d=>j.aE n d.1) (t.row dC ce) a8 (λn d=>⟨t.aE n d,λhf=>by have:=a0 n hf.1;have:=Z n d;omega⟩) y R) ?_⟩;rintro _ g ⟨k,rfl,G4,M,N⟩;obtain⟨f,P,u,a,-,-⟩:=L.nh cg (k:=4) (G':=G4) (C2:=mi p (h.cells c self) h c X X.S.l) N M.aE M λO G hj hc=>by
  rcases O with _|_|_|_|_|_|_|O<;>first|exact hc|exact Zz rfl hj
 have Q:ai w b:=s.then e;exact⟨_,rfl,N.keep,o g f P u ⟨(ai.keep Q).then a.keep,λn d=>(a.new n d).imp id λh1=>by have:=Q.size;omega⟩⟩
def Ka(x:cQ w F cls p h c self X)(c1:jW c self)(y:Env w0 w F){V:dx}(b3:X.log=some V)(Y:Row jh 96 w E ea en evs)(Z:∀P,E P->P<w.heap.size/\¬(F P/\cls P=2))(hl:X.S.l.length+evs.length<=20000000):
  be 62 #[RK p,.slice ea en ec] w (Ok λz w'=>z= WP (dt c X evs).1/\∃A r d,cQ w' r d p A c self (dt c X evs).2/\cm F w r w'/\A.wp=h.wp):=by
 obtain⟨b,D,c2,n,i⟩:=X;simp only at b3 hl;subst b3;obtain⟨hS,B,hn⟩:=(show cJ w h.sp (λP=>F P/\cls P=3) b/\b.Cl/\b.n=c.aD.toNat from x.at' 3)
 have c3:=x.aE;obtain⟨e1,C,H,a0⟩:=DL.PX (show DL w (λP=>F P/\cls P=2) h.dp h.lp D (some V)from x.at' 2) (y.sub λP a=>a.1) λP a=>c3 P a.1;have c4:=SZ Y;have a2:∀P,E P->P<w.heap.size:=λP a=>(Z P a).1;refine oO ⟨p,0,rfl,_,ae x.bw rfl,?_⟩;rw[C];refine PC.ok (MC y.laid a0 H Y a2 oM) ?_;rintro _ w7 ⟨rfl,a1,k7⟩;have I:=Hz (D:=D) (l:=evs) H;have s:∀{a3},(if(aG V D evs).1≠0 then((aG V D evs).1,({S:=b,D:=(aG V D evs).2.2,log:=some (aG V D evs).2.1,waits:=n,gB:=i}:bh))else
   if((aG V D evs).2.2.sync (aG V D evs).2.1.last).1≠0 then(((aG V D evs).2.2.sync (aG V D evs).2.1.last).1,{S:=b,D:=((aG V D evs).2.2.sync (aG V D evs).2.1.last).2,log:=some (aG V D evs).2.1,waits:=n,gB:=i})else
   (0,{S:=fg c b evs,D:=((aG V D evs).2.2.sync (aG V D evs).2.1.last).2,log:=some (aG V D evs).2.1,waits:=n,gB:=i}))=a3->dt c ⟨b,D,some V,n,i⟩ evs=a3:=λ{a3} hq=>hq
 generalize e2:aG V D evs=ap at a1 I s;obtain⟨e3,t,D7⟩:=ap;simp only at a1 I s;obtain⟨G7,J,a4,a5,-⟩:=DL.Hw (Y:=λ_=>False) (a1.mono λP a=>a.elim id False.elim) k7 I;obtain⟨F7,k,K,e,-,-,c5⟩:=x.nh cg (k:=2) (G':=G7) (C2:=mi p (h.cells c self) h c ⟨b,D7,some t,n,i⟩ b.l) a4 a5 (by rw[<-C]at J;exact J) λl G L M=>by
  rcases l with _|_|_|_|_|_|_|l<;>first|exact M|exact Zz rfl L
 refine⟨_,rfl,al.eP (λa6=>Ok.mk ?_) (λh0=>?_)⟩
 ·rw[s (Zx a6)]
  exact⟨rfl,h,F7,k,K,e,rfl⟩
 simp only at h0;have c6:=y.nh e;obtain⟨q2,m,-,u⟩:=DL.PX (show DL w7 (λP=>F7 P/\k P=2) h.dp h.lp D7 (some t)from K.at' 2) (c6.sub λP a=>a.1) λP a=>K.aE P a.1;refine⟨p,0,rfl,_,ae (K.at' 0).2 rfl,?_⟩;rw[m];refine PC.ok (JG y.laid u I) ?_;rintro _ b4 ⟨rfl,a7,c7⟩;generalize e4:D7.sync t.last=sy at a7 s;obtain⟨s1,S⟩:=sy;simp only at a7 s;obtain⟨a8,o,g,N,-⟩:=DL.Hw (Y:=λ_=>False) (a7.mono λP a=>a.elim id False.elim) c7 I;obtain⟨O,v,f,j,-,a9,T⟩:=K.nh cg (k:=2) (G':=a8) (C2:=mi p (h.cells c self) h c ⟨b,S,some t,n,i⟩ b.l) g N (by rw[<-m]at o;exact o) λl G L M=>by
  rcases l with _|_|_|_|_|_|_|l<;>first|exact M|exact Zz rfl L
 have b0:=e.trans j;refine⟨_,rfl,al.eP (λa6=>Ok.mk ?_) (λh1=>?_)⟩
 ·rw[s ((Zq (by simpa using h0)).trans (Zx a6))]
  exact⟨rfl,h,O,v,f,b0,rfl⟩
 simp only at h1;have c8:=s ((Zq (by simpa using h0)).trans (Zq (by simpa using h1)));rw[c8];have c9:Row jh 96 b4 E ea en evs:=by
  refine(Y.keep a4.keep λP a=>(Z P a).2).keep g.keep λP a hf=>?_;rcases a4.new P (c5▸hf)with h5|h5
  ·exact(Z P a).2 h5
  ·have:=a2 P a;omega
 refine PC.ok (Kj f c1 c9 (λP a=>by have:=a2 P a;have:=b0.keep.size;omega) hl) ?_;rintro _ d0 ⟨U,F2,rfl,b5,d1,d2⟩;have d3:(fg c b evs).n=c.aD.toNat:=aq.Ro _ _;have b1:=wg B hn evs;have b6:(fg c b evs).Cl:=by rw[b1];exact aq.Cl.eC B c4
 obtain⟨F3,Q,b7,q,d4,-⟩:=f.fm cg (k:=3) (w':=d0) (G':=F2) (C2:=mi p (h.cells c self) {h with sp:=U} c ⟨fg c b evs,S,some t,n,i⟩ b.l) (ai.keep d2) (λP a=>.inr (d1 P a)) b5.aE ⟨b5,b6,d3⟩ λl G L M=>by
  rcases l with _|_|_|_|_|_|_|l<;>first|exact M|exact Zz rfl L
 refine⟨_,rfl,p,0,rfl,PS.mk (b7.at' 0).2 sM λb8 b9 e5 d5=>?_⟩;have d6:bg b8 F3 Q (mi p (({h with sp:=U}:km).cells c self) {h with sp:=U} c ⟨fg c b evs,S,some t,n,i⟩ b.l):=cQ.store b7 b9 d5;have d7:cm O b4 F3 b8:=⟨q.keep.then (b9.mono λP _ R=>by have R:P=p:=R;rw[R];exact(f.at' 0).1.1),q.new⟩
 have c0:=b0.trans d7;have d8:∀W∈b.l,W∈(fg c b evs).l:=λW hx=>by rw[b1];exact aq.Ki hx
 have d9:(fg c b evs).l.length<=20000000:=by rw[b1];exact Xx (aq.nz _ _) hl
 exact CE d6 (y.nh c0) (λe6 W e7 hx hy R=>S_ b6.ok (d8 W (QZ hx)) (QZ hy) R) d9 (κ:=λz w'=>Ok (λz w'=>z= WP 0/\∃A r d,cQ w' r d p A c self ⟨fg c b evs,S,some t,n,i⟩/\cm F w r w'/\A.wp=h.wp) (.returned z) w')
  λw' r d b2 e0=>Ok.mk ⟨rfl,{h with sp:=U},r,d,b2,c0.trans e0,rfl⟩
end
def CC{D:ak}{size:Int}(n:(aU D size).no=0):(aU D size).V.bf≠[]:=by
 revert n
 unfold aU;generalize cP (told D) [] (dO D size) D=b;unfold gi;split
 ·rename_i a;intro n;exact Zz n a
 split
 ·intro n;exact tB n
 rename_i P;split
 ·intro _;exact P
 ·intro _;exact P
abbrev yh(n:km)(P:bK)(a:Int)(b c d:bc):Array Value:= #[WP P.aD,WP P.uI,WP P.bj,WP P.chunk,WP P.buffer,WP P.de,WP P.every,WP P.start,.slice n.ta n.tn n.tc,.slice n.pa n.pn n.pc,WP a,
 RK n.dp,.pointer b,.pointer c,.pointer d,RK n.wp,RK n.tp]
def recC(c:Nat)(d:Array Value)(P:km)(b:bK)(a:bh)(e:Bool):Nat->World->(UL)->Prop
 |0=>λn G=>G c/\n.heap[c]? =some (.cells d 116 (0,0))
 |1=>λn G=>bt n G b.decl P.ta P.tn P.pa P.pn
 |2=>λn G=>DL n G P.dp P.lp a.D a.log
 |3=>λn G=>e=true->cJ n P.sp G a.S/\a.S.Cl/\a.S.n=b.aD.toNat
 |5=>λn G=>Pu n G P.wp b.buffer.toNat a.waits
 |6=>λn G=>ep n P.tp G a.gB
 |_=>λ_ _=>True
section
variable {w w' w0:World} {p:Nat} {F E T:UL} {cls:Nat->Nat} {h:km} {c:bK} {self:Int} {X:bh} {evs lB:List ah} {ea:bc} {en ec:Nat}
def iw:mj (recC p o h c X J):=by
 intro k w w' G T n a P
 match k,n with
 |0,n=>exact⟨n.1,a.get n.2 (P p n.1)⟩
 |1,n=>exact bt.keep n a P
 |2,n=>exact DL.keep n a P
 |3,n=>exact λe=>⟨cJ.keep (n e).1 a P,(n e).2⟩
 |4,n=>trivial
 |5,n=>obtain⟨i,D,j,f,g⟩:=n;exact⟨i,D,j.keep a (λb d=>P b (f b d)) λb d=>P b (g b d),f,g⟩
 |6,n=>exact ep.keep n a P
 |k+7,n=>trivial
def yU{z1 z2 z3:bc}(T:bg w F cls (recC p (yh h c self z1 z2 z3) h c X false))(L:jW c self)(A:Env w0 w F):
  be 52 #[RK p] w (Ok λB w'=>B= WP (fE c X).1/\(fE c X).2.S.l.length<=16777216/\∃U q d,cQ w' q d p U c self (fE c X).2/\cm F w q w'):=by
 obtain⟨g0,d2,j5⟩:=L.aD;have g1:=T.aE;have V:F p/\cls p=0:=(T.at' 0).1;have j0:1<=c.every:=by
  have:=L.right;unfold fJ at this;simp only[QK,Zk]at this;omega
 refine l_ λw3 d3=>?_;have W:ai w w3:=d3.keep;have M:=bg.af T iw W;have N:=(M.at' 0).2;refine⟨λ_=>False,p,0,rfl,_,ae N rfl,p,0,rfl,id,_,_,_,_,_,_,ae N rfl,ae N rfl,p,0,rfl,id,_,ae N rfl,?_⟩;rw[g0];refine PC.ok (F_ d2) ?_;rintro _ d4 ⟨e,F2,rfl,Y,d5,C⟩;have a9:=W.then C;have d6:=bg.af M iw C;refine⟨_,rfl,C,PC.ok (QT L.decl L.every ((A.p_.af A.gr).af a9) (show bt d4 (λn=>F n/\cls n=1) c.decl h.ta h.tn h.pa h.pn from d6.at' 1) λn P=>d6.aE n P.1) ?_⟩;rintro _ g2 ⟨g,F4,rfl,Z,d7,b7⟩;have y3:=W.size;have j6:=C.size;have j7:=b7.size;rw[show(max 1 c.every).toNat=c.every.toNat by congr 1;omega]at Z;have j1:=Y.aE;obtain⟨Fa,d1,E,b0,g4,-⟩:=M.HU iw (k:=3) (w':=d4) (G':=F2) (C2:=recC p (yh h c self z1 z2 z3) {h with sp:=e} c {X with S:=⟨c.aD.toNat,[]⟩} true) (ai.keep C) (λn P l=>by have:=d5 n P;have:=g1 n l;omega) Y.aE (λ_=>⟨Y,aq.Cl.new d2,rfl⟩) λa G i j=>by
  rcases a with _|_|_|_|_|_|_|a<;>first|exact j|exact Zz rfl i
 obtain⟨u,r,b8,b1,g5,-⟩:=E.HU iw (k:=4) (w':=g2) (G':=F4) (C2:=mi p (yh h c self z1 z2 z3) {h with sp:=e,bp:=g} c {X with S:=⟨c.aD.toNat,[]⟩} []) (ai.keep b7) (λn P l=>by have:=d7 n P;have:=E.aE n l;omega) Z.aE Z λa G i j=>by
  rcases a with _|_|_|_|_|_|_|a<;>first|exact j|exact j rfl|exact Zz rfl i
 have d8:∀n,u n->F n\/w.heap.size<=n:=λn P=>by
  rcases g5 n P with k|k
  ·rcases g4 n k.1 with h6|h6
   ·exact .inl h6.1
   ·exact .inr (by have:=d5 n h6;omega)
  ·exact .inr (by have:=d7 n k;omega)
 refine⟨_,rfl,p,0,rfl,PS.mk (b8.at' 0).2 sM λj8 d9 j9 g6=>⟨p,0,rfl,PS.mk g6 sM λb9 e0 k0 g7=>λc1 g8=>?_⟩⟩;have j2:u p/\r p=0:=(b8.at' 0).1;have e1:ai b9 c1:=g8.keep;have g9:bg b9 u r (mi p (yh h c self z1 (UV e) (UV g)) {h with sp:=e,bp:=g} c {X with S:=⟨c.aD.toNat,[]⟩} []):=cQ.store b8 (d9.then e0) g7;have b2:cm F w u b9:=⟨((ai.keep a9).af b7).then ((d9.then e0).mono λn _ f=>by have f:n=p:=f;rw[f];exact V.1),d8⟩
 have H:=bg.af g9 cg e1;have O:cm F w u c1:=⟨b2.keep.af e1,b2.new⟩
 have e2:=A.nh O;have e3:=(H.at' 0).2;have h4:=DL.uI (show DL c1 (λn=>u n/\r n=2) h.dp h.lp X.D X.log from H.at' 2) (e2.sub λn P=>P.1);refine⟨p,0,rfl,_,ae e3 rfl,p,0,rfl,_,ae e3 rfl,PC.ok (IW A.laid h4) ?_⟩;have a0:∀{b},(if(aU X.D c.bj).no≠0 then((aU X.D c.bj).no,{X with D:=(aU X.D c.bj).D,log:=none,S:=⟨c.aD.toNat,[]⟩})
   else(0,{X with D:=(aU X.D c.bj).D,log:=some (aU X.D c.bj).V,S:=(⟨c.aD.toNat,[]⟩:aq).eC (aU X.D c.bj).out}))=b->fE c X=b:=λ{b} hq=>hq
 have b3:=CC (D:=X.D) (size:=c.bj);generalize aU X.D c.bj=b at a0 b3;rintro _ h7 (⟨I,rfl,e5,c3⟩|⟨I,s,e9,a1,cc,G,rfl,c4,h8,c3,hG,hq,j3⟩)
 ·obtain⟨G2,c5,a2,c6,-⟩:=DL.Oc (Y:=λ_=>False) (e5.mono λn P=>P.elim id False.elim) c3
  obtain⟨t,Q,v,a3,-,-⟩:=H.nh cg (k:=2) (G':=G2) (C2:=mi p (yh h c self z1 (UV e) (UV g)) {h with sp:=e,bp:=g,lp:=none} c {X with S:=⟨c.aD.toNat,[]⟩,D:=b.D,log:=none} []) a2 c6 (by
    obtain⟨Fd,h1,h2,M⟩:=c5;exact⟨Fd,h1,h2,rfl⟩) λa G i j=>by
   rcases a with _|_|_|_|_|_|_|a<;>first|exact j|exact Zz rfl i
  refine⟨_,_,_,_,_,rfl,p,0,rfl,PS.mk (v.at' 0).2 sM λx y e4 c7=>al.eP (λ_=>Ok.mk ?_) (λh0=>Zz h0 I)⟩;rw[a0 (Zx I)];refine⟨rfl,Qj _,{h with sp:=e,bp:=g,lp:=none},t,Q,cQ.store v y c7,?_⟩;have J:=O.trans a3;exact⟨J.keep.then (y.mono λn _ f=>by have f:n=p:=f;rw[f];exact V.1),J.new⟩
 ·obtain⟨G2,c5,a2,c6,hY⟩:=DL.Hw h8 c3 (b3 I)
  obtain⟨t,Q,v,a3,h9,-⟩:=H.nh cg (k:=2) (G':=G2) (C2:=mi p (yh h c self z1 (UV e) (UV g)) {h with sp:=e,bp:=g,lp:=UV s} c {X with S:=⟨c.aD.toNat,[]⟩,D:=b.D,log:=some b.V} []) a2 c6 c5 λa G i j=>by
   rcases a with _|_|_|_|_|_|_|a<;>first|exact j|exact Zz rfl i
  refine⟨_,_,_,_,_,rfl,p,0,rfl,PS.mk (v.at' 0).2 sM λx y e4 c7=>al.eP (λh0=>Zz rfl h0) (λ_=>?_)⟩;have f0:bg x t Q (mi p (({h with sp:=e,bp:=g,lp:=UV s}:km).cells c self) {h with sp:=e,bp:=g,lp:=UV s} c {X with S:=⟨c.aD.toNat,[]⟩,D:=b.D,log:=some b.V} []):=cQ.store v y c7;have J:=O.trans a3;have b4:cm F w t x:=⟨J.keep.then (y.mono λn _ f=>by have f:n=p:=f;rw[f];exact V.1),J.new⟩
  have j4:=O.keep.size;have c8:∀n,G n->¬t n:=λn P l=>by
   rcases h9 n l with k|k
   ·have:=H.aE n k.1;have:=hG n P;omega
   ·exact hY n k P
  have i0:∀n,G n->n≠p:=λn P f=>c8 n P (f▸(v.at' 0).1.1);have b5:=c4.aE;have k1:=c4.len dC;have b6:Row jh 96 x G e9 a1 b.out:=vS.row (((c4.keep y λn P f=>i0 n P f)).row dC ce);have k2:x.heap.size=h7.heap.size:=e4;rw[a0 (Zq (by simpa using I))];have f9:=SZ b6;refine⟨λc0 a4 w'=>∃(a:Nat) (R:UL) (e6:Nat->Nat),a4=a/\a<=a1/\c0=a1-a/\bg w' R e6 (mi p (({h with sp:=e,bp:=g,lp:=UV s}:km).cells c self) {h with sp:=e,bp:=g,lp:=UV s} c {X with S:=(⟨c.aD.toNat,[]⟩:aq).eC (b.out.take a),D:=b.D,log:=some b.V} [])/\cm t x R w',
   ⟨_,0,t,Q,rfl,Qj _,rfl,f0,cm.refl _ _⟩,?_⟩
  rintro c0 _ _ e7 ⟨a,R,e6,rfl,i,rfl,c9,z⟩;have i1:∀n,G n->¬R n:=λn P l=>by
   rcases z.new n l with k|k
   ·exact c8 n P k
   ·have:=b5 n P;omega
  have d0:=aq.nz (b.out.take a) ⟨c.aD.toNat,[]⟩;rw[Qy]at d0;simp only[ZQ]at d0;refine al.dec (λk4=>?_) (λk5=>?_)
  ·obtain⟨m,S⟩:∃m,b.out[a]? =some m:=⟨_,Qq oM⟩
   obtain⟨n,f1,es,ha,k6,k7,i2,xa,xn,xc,rfl,i3,c2⟩:=(b6.keep z.keep c8).el a m S;refine⟨n,f1,ha,oM,oM,bT (es:=aF m xa xn xc) (k:=10) (bb _ _ _ _) rfl (λa4 ht=>by rw[Qx];exact i2 a4 ht) (PA.mk λk8 i4 k9 i5=>aC (bb m xa xn xc) i5 rfl λl0 i6 l3 i7=>λi8 e8=>?_)⟩;have K:ai e7 i8:=(i4.new i6 λn P=>.inr (by have P:n=e7.heap.size:=P;omega)).then e8.keep;have a5:=bg.af c9 cg K;have l4:=z.keep.size;obtain⟨f2,f3,f5⟩:=a5.at' 3;refine⟨p,0,rfl,_,ae (a5.at' 0).2 rfl,ar (bb m xa xn xc) ((e8.keep (S:=λ_=>False)).get i7 id) (PC.ok (uX f2 (i3.af K) (λn P=>⟨by have:=b5 n P;have:=K.size;omega,λl=>i1 n P l.1⟩) c2 (by show((⟨c.aD.toNat,[]⟩:aq).eC (b.out.take a)).l.length<_;omega)) ?_)⟩;rintro _ l5 ⟨rfl,F8,f4,f6⟩;have i9:((⟨c.aD.toNat,[]⟩:aq).eC (b.out.take (a+1)))=(((⟨c.aD.toNat,[]⟩:aq).eC (b.out.take a)).add m).2:=by
    rw[Qw,S];exact aq.nB ..
   obtain⟨F9,a6,a7,o,-⟩:=a5.nh cg (k:=3) (G':=F8) (C2:=mi p (({h with sp:=e,bp:=g,lp:=UV s}:km).cells c self) {h with sp:=e,bp:=g,lp:=UV s} c {X with S:=(⟨c.aD.toNat,[]⟩:aq).eC (b.out.take (a+1)),D:=b.D,log:=some b.V} []) f6 f4.aE (by rw[i9];exact⟨f4,f3.add c2,(aq.Vp _ _).trans f5⟩) λa G i j=>by
    rcases a with _|_|_|_|_|_|_|a<;>first|exact j|exact Zz rfl i
   exact⟨_,rfl,_,oM,a+1,F9,a6,an oM,oM,rfl,a7,z.trans ⟨(ai.keep K).then o.keep,λn P=>(o.new n P).imp id λh1=>by have:=K.size;omega⟩⟩
  ·rw[Qz oM]at c9 d0
   exact CE c9 (A.nh (b4.trans z)) (λf8 m g3 S=>by simp at S) (by show((⟨c.aD.toNat,[]⟩:aq).eC b.out).l.length<=_;omega) (κ:=λB w'=>Ok (λB w'=>B= WP 0/\((⟨c.aD.toNat,[]⟩:aq).eC b.out).l.length<=16777216/\∃U q d,cQ w' q d p U c self {X with S:=(⟨c.aD.toNat,[]⟩:aq).eC b.out,D:=b.D,log:=some b.V}/\cm F w q w') (.returned B) w')
    λw' q d a8 f7=>Ok.mk ⟨rfl,oM,_,q,d,a8,(b4.trans z).trans f7⟩

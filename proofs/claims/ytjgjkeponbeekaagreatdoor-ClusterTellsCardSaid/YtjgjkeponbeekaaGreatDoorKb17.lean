import Derived.Test.YtjgjkeponbeekaaGreatDoorKb16
set_option linter.all false
set_option maxRecDepth 100000
open Go.IntKind renaming wrap→GT
namespace Go.Proofs.YtjgjkeponbeekaaGreatDoor
open Go.ar
abbrev oF:=List (Int×List ah)
def cY(n:oF):List Int:=n.map (·.1)
def cj(n:oF)(P:List ah):List ah:=(n.map (·.2)).flatten++P
structure cF (D:ak) (A:oF) (no:Int) (l:List ah) (k:Nat):Prop where
 tidy:Tidy D.files
 full:∀x∈A,an D.files (ay x.1)=some (dU (az x.2))
 last:∃s,an D.files (ay no)=some ⟨az l,s,true⟩/\(az (l.take k)).length<=s/\s<=(az l).length
 kl:k<=l.length
 Xl:an D.files b_=some (dU (bS (cY A++[no])))
 Ay:∀n∈cY A++[no],1<=n/\n<1000000000000
 zI:(cY A++[no]).Pairwise (·<·)
 evs:∀e∈cj A l,e.Ok/\e.aN.length<=64
 many:A.length+1<=64
structure EM (V:dv) (A:oF) (no:Int) (l:List ah):Prop where
 a_:V.a_=cY A++[no]
 bytes:V.bytes=((az l).length:Nat)
 next:no<V.next/\V.next<=1000000000000
def fy{n:Int}(d:cT (ay n)=true\/0<=n/\n<1000000000000):ay n≠b_/\ay n≠aO:=by
 have b:b_.data.toList.take 4≠dK:=by decide+kernel
 have c:aO.data.toList.take 4≠dK:=by decide+kernel
 have P:(ay n).data.toList.take 4=dK\/(ay n).data.toList=[]:=by
  unfold ay;rw[ox];unfold ax;split
  ·exact .inr rfl
  ·exact .inl (by simp[dK])
 refine⟨λa=>?_,λa=>?_⟩
 ·rw[a]at P
  rcases P with P|P
  ·exact b P
  ·revert P;decide+kernel
 ·rw[a]at P
  rcases P with P|P
  ·exact c P
  ·revert P;decide+kernel
def ss{a n:Int}(P:0<=a/\a<1000000000000)(b:ay n=ay a):n=a:=JO P.1 P.2 (N_ b)
variable{y:ByteArray}{t:UV}{e:Int}{u:List Int}{w:List UInt8}{H:List ah}{a c i:Nat}{a5 f:RK}{d s:am}{b k:World}{X:bQ}{b4:dv}
def uf(P:0<=e):cT (ay e)=true↔e<1000000000000:=by
 constructor
 ·intro n
  by_cases a:e<1000000000000
  ·exact a
  ·have:ay e=cH []:=by unfold ay ax;rw[Zx (.inr oM)]
   have b:cT (cH [])=false:=by decide+kernel
   rw[this,b]at n;cases n
 ·intro n;exact JP P n
def jT(n:List ah)(P:Nat):(az (n.take P)).length<=(az n).length:=by
 have a:=ZX P n
 conv=>rhs;rw[<-a,gv,QX]
 omega
def CD(n:oF)(no:Int)(P a:List ah):cj (n++[(no,P)]) a=cj n P++a:=by simp[cj]
section
variable {D E:ak} {A:oF} {no:Int} {l x:List ah} {k j:Nat} {V:dv}
def cF.same(n:cF D A no l k)(c:Tidy E.files)(P:∀a∈cY A++[no],an E.files (ay a)=an D.files (ay a))(d:an E.files b_=an D.files b_):cF E A no l k:=
 ⟨c,λx b=>(P x.1 (ZV _ (Xk.2 ⟨x,b,rfl⟩))).trans (n.full x b),by
  obtain⟨e,f,g⟩:=n.last;exact⟨e,(P no (ZW _ (List.mem_singleton.2 rfl))).trans f,g⟩,n.kl,d.trans n.Xl,n.Ay,n.zI,n.evs,n.many⟩
def cF.files(P:cF D A no l k)(n:E.files=D.files):cF E A no l k:=P.same (by rw[n];exact P.tidy) (λ_ _=>by rw[n]) (by rw[n])
def cF.uh(n:cF D A no l k):1<=no/\no<1000000000000:=n.Ay no (ZW _ (List.mem_singleton.2 rfl))
def cF.VS(P:cF D A no l k):∀n∈A,ay n.1≠ay no:=λn b c=>by
 have d:=P.uh;have:=ss ⟨oM,d.2⟩ c;have a:=P.zI;rw[List.pairwise_append]at a;have:=a.2.2 n.1 (Xk.2 ⟨n,b,rfl⟩) no (List.mem_singleton.2 rfl);omega
def cF.put(n:cF D A no l k){s b:Nat}(P:E.files=aJ D.files (ay no) ⟨az H,s,true⟩)(e:b<=H.length)(f:(az (H.take b)).length<=s)(g:s<=(az H).length)(h:∀a∈H,a.Ok/\a.aN.length<=64):cF E A no H b:=
 ⟨by rw[P];exact n.tidy.aJ _ _,λc d=>by rw[P,bl,Zq (by simpa using n.VS c d)];exact n.full c d,⟨s,by rw[P,bl];simp,f,g⟩,e,by
  have:=(fy (n:=no) (.inr (by have:=n.uh;omega))).1;rw[P,bl,Zq (by simpa using this.symm)];exact n.Xl,n.Ay,n.zI,λa P=>by
  rcases Q6.1 P with F|F
  ·exact n.evs a (ZV _ F)
  ·exact h a F,n.many⟩
def cF.YK(P:cF D A no l k):∀n∈l,n.Ok/\n.aN.length<=64:=λn a=>P.evs n (ZW _ a)
def cF.uT(n:EM V A no l):V.last=ay no:=by unfold dv.last;rw[n.a_];simp[ay]
def cF.mono(n:cF D A no l k)(P:j<=k):cF D A no l j:=by
 obtain⟨a,b,c,d⟩:=n.last;exact⟨n.tidy,n.full,⟨a,b,Xx (CE P) c,d⟩,Xx P n.kl,n.Xl,n.Ay,n.zI,n.evs,n.many⟩
def Fk(n:cF D A no l k):((D.sync (ay no)).1=0/\cF (D.sync (ay no)).2 A no l l.length)\/((D.sync (ay no)).1≠0/\cF (D.sync (ay no)).2 A no l k):=by
 rcases lG D (ay no)with⟨P,a⟩|⟨P,d,b,a⟩
 ·exact .inr ⟨P,n.files a⟩
 ·obtain⟨e,c,f,g⟩:=n.last
  rw[c]at b;cases b
  exact .inl ⟨P,n.put a (Q4 _) (by rw[List.take_length];exact Q4 _) (Q4 _) n.YK⟩
def CF(m:Tidy D.files)(o:0<=V.next):((bA V D).1≠0/\(bA V D).2.1=V/\Tidy (bA V D).2.2.files/\∀x,x≠ay V.next->x≠aO->an (bA V D).2.2.files x=an D.files x)\/
  ((bA V D).1=0/\V.next<1000000000000/\V.a_.length+1<=64/\an D.files (ay V.next)=none/\(bA V D).2.1=⟨V.size,V.a_++[V.next],0,V.next+1⟩/\Tidy (bA V D).2.2.files/\an (bA V D).2.2.files (ay V.next)=some (dU [])/\
   an (bA V D).2.2.files b_=some (dU (bS (V.a_++[V.next])))/\∀x,x≠ay V.next->x≠aO->x≠b_->an (bA V D).2.2.files x=an D.files x):=by
 unfold bA;dsimp only;rw[show cH (ax V.next)=ay V.next from rfl];rcases jK D (ay V.next)with⟨d,f⟩|⟨d,f,w,p⟩
 ·rw[Zx d]
  exact .inl ⟨d,rfl,by show Tidy (D.create _).2.files;rw[f];exact m,λx _ _=>by show an (D.create (ay V.next)).2.files x=_;rw[f]⟩
 have q:=(uf o).1 f;obtain⟨y,nt⟩:=fy (n:=V.next) (.inr ⟨o,q⟩);rw[Zq (show¬(D.create (ay V.next)).1≠0 by simpa using d)];have g:ug (ay V.next) D (D.create (ay V.next)).2:=(ug.refl m).put p;have r:an (D.create (ay V.next)).2.files (ay V.next)=some ⟨[],0,false⟩:=by rw[p,bl];simp
 generalize(D.create (ay V.next)).2=P at g r;unfold lP;dsimp only;rw[show cH (ax V.next)=ay V.next from rfl];have a:∀{F:ak},Tidy F.files->(∀x,x≠ay V.next->x≠aO->an F.files x=an D.files x)->Tidy (F.delete (ay V.next)).2.files/\∀x,x≠ay V.next->x≠aO->an (F.delete (ay V.next)).2.files x=an D.files x:=by
  intro F l s;rcases jF F (ay V.next)with e|e
  ·rw[e];exact⟨l,s⟩
  ·rw[e];exact⟨l.bM _,λx n b=>by rw[gh l,Zq (by simpa using n)];exact s x n b⟩
 rcases lG P (ay V.next)with⟨h,c⟩|⟨h,E,t,c⟩
 ·rw[Zx h]
  have:=a (F:=(P.sync (ay V.next)).2) (by rw[c];exact g.1) λx n _=>by rw[c];exact g.2 x n
  exact .inl ⟨h,rfl,this⟩
 rw[r]at t;cases t
 have i:ug (ay V.next) D (P.sync (ay V.next)).2:=g.put c;have u:an (P.sync (ay V.next)).2.files (ay V.next)=some (dU []):=by rw[c,bl];simp
 rw[Zq (show¬(P.sync (ay V.next)).1≠0 by simpa using h)];generalize(P.sync (ay V.next)).2=z at i u;rcases LJ i.1 (V.a_++[V.next])with⟨j,k⟩|⟨j,k,A,B,v⟩
 ·rw[Zx j]
  have:=a (F:=(bz z (V.a_++[V.next])).2) k.1 λx n b=>(k.2 x b).trans (i.2 x n);exact .inl ⟨j,rfl,this⟩
 ·rw[Zq (by simpa using j)]
  refine .inr ⟨rfl,q,by simpa using k,w,?_,A,(v _ nt y).trans u,B,λx n b C=>(v x b C).trans (i.2 x n)⟩;rw[wrap_i64 (by unfold aM;omega)]
def cF.bA(b:cF D A no l l.length)(i:EM V A no l):((bA V D).1≠0/\(bA V D).2.1=V/\cF (bA V D).2.2 A no l l.length)\/
  ((bA V D).1=0/\(bA V D).2.1.size=V.size/\cF (bA V D).2.2 (A++[(no,l)]) V.next [] 0/\EM (bA V D).2.1 (A++[(no,l)]) V.next []/\(bA V D).2.1.next=V.next+1):=by
 have H:=b.uh;have I:=i.next;have q:∀n∈cY A++[no],n<V.next:=λn a=>by
  rcases Q6.1 a with P|P
  ·have j:=b.zI
   rw[List.pairwise_append]at j;have:=j.2.2 n P no (List.mem_singleton.2 rfl);omega
  ·have:=List.mem_singleton.1 P;omega
 have k:∀n∈cY A++[no],ay n≠ay V.next:=λn a d=>by
  have P:=b.Ay n a;have j:=q n a;have:=ss (a:=n) ⟨oM,P.2⟩ d.symm;omega
 have e:∀n∈cY A++[no],ay n≠b_/\ay n≠aO:=λn a=>fy (.inr (by have:=b.Ay n a;omega));have u:b_≠ay V.next:=λd=>by
  by_cases J:V.next<1000000000000
  ·exact(fy (n:=V.next) (.inr oM)).1 d.symm
  ·have v:ay V.next=cH []:=by unfold ay ax;rw[Zx (.inr oM)]
   rw[v]at d
   revert d;decide+kernel
 rcases CF (V:=V) b.tidy oM with⟨m,r,g,o⟩|⟨m,r,g,o,f,w,x,s,t⟩
 ·exact .inl ⟨m,r,b.same g (λn a=>o _ (k n a) (e n a).2) (o _ u λd=>NG d.symm)⟩
 ·rw[i.a_]at g s
  have y:A.length+1+1<=64:=by simpa[cY]using g
  have h:cY (A++[(no,l)])=cY A++[no]:=by simp[cY]
  refine .inr ⟨m,by rw[f],⟨w,λp z=>?_,⟨0,x,by simp[az],Qj _⟩,Q4 _,by rw[h];exact s,?_,?_,by rw[CD,List.append_nil];exact b.evs,by simpa using y⟩,⟨by rw[f,h,i.a_],by rw[f];simp[az],by rw[f];simp only;omega⟩,by rw[f]⟩
  ·rcases Q6.1 z with P|P
   ·have c:p.1∈cY A++[no]:=ZV _ (Xk.2 ⟨p,P,rfl⟩)
    rw[t _ (k _ c) (e _ c).2 (e _ c).1];exact b.full p P
   ·rw[List.mem_singleton]at P
    subst P;have c:no∈cY A++[no]:=ZW _ (List.mem_singleton.2 rfl);obtain⟨B,C,E,K⟩:=b.last;rw[List.take_length]at E;have F:B=(az l).length:=oM
    show an _ (ay no)=_;rw[t _ (k _ c) (e _ c).2 (e _ c).1,C,F];rfl
  ·rw[h]
   intro n a;rcases Q6.1 a with P|P
   ·exact b.Ay n P
   ·have:=List.mem_singleton.1 P;omega
  ·rw[h,List.pairwise_append]
   exact⟨b.zI,List.pairwise_singleton _ _,λn a L c=>by have:=List.mem_singleton.1 c;have:=q n a;omega⟩
def cF.begin(c:cF D A no l k)(P:EM V A no l):((aH V D).1≠0/\(aH V D).2.1=V/\cF (aH V D).2.2 A no l k)\/
  ((aH V D).1=0/\(aH V D).2.1.size=V.size/\cF (aH V D).2.2 (A++[(no,l)]) V.next [] 0/\EM (aH V D).2.1 (A++[(no,l)]) V.next []/\(aH V D).2.1.next=V.next+1):=by
 have d:¬V.a_=[]:=by rw[P.a_];simp
 have e:aH V D=if(D.sync (ay no)).1≠0 then((D.sync (ay no)).1,V,(D.sync (ay no)).2)else Go.Proofs.YtjgjkeponbeekaaGreatDoor.bA V (D.sync (ay no)).2:=by
  unfold aH;rw[Zq d,cF.uT P]
 rw[e];rcases Fk c with⟨n,a⟩|⟨n,a⟩
 ·rw[Zq (by simpa using n)]
  rcases a.bA P with⟨f,g,h⟩|b
  ·exact .inl ⟨f,g,h.mono c.kl⟩
  ·exact .inr b
 ·rw[Zx n];exact .inl ⟨n,rfl,a⟩
end
def bJ(n:List ah):List UInt8×Int:=if n.any eQ then([],3)else(az n,0)
def LZ(V:Laid b)(C:Row kY 96 b f d a H)(W:∀n,f n->n<b.heap.size)(hl:H.length<=20000000):
  ba 142 #[.slice d a c] b (Ok λX q=>∃E F I l,X= .tuple #[.slice E F I,WP (bJ H).2]/\aU gl 5 l q E F I (bJ H).1/\ai b q/\∀n,l n->b.heap.size<=n):=by
 have hn:=C.len;refine xF ⟨λJ K L N O q=>∃(P:Nat) (l:RK),O=P/\P<=a/\J=a-P/\(∀e∈H.take P,e.Ok/\e.aN.length<=64)/\(az (H.take P)).length<=675*P/\aU gl 5 l q K L N (az (H.take P))/\ai b q/\∀n,l n->b.heap.size<=n,
  ⟨_,0,λ_=>False,rfl,Qj _,rfl,sM,by simp[az],aU.nil b,aj.refl _,λ_ u=>u.elim⟩,?_⟩
 rintro J K L N O _ Y ⟨P,l,rfl,hj,rfl,v,Z,o,m,w⟩;refine al.dec (λa9=>?_) (λb0=>?_)
 ·obtain⟨n,x,e,es,rfl,_,_,Q,j,a1,n1,c1,rfl,hd,s⟩:=(C.af m).IA (i:=P) oM
  have g:=λi (hi:i<10)=>j i hi;refine⟨n,x,rfl,oM,oM,_,_,_,_,_,_,_,_,_,_,_,_,g 0 dC,g 1 dC,g 2 dC,g 3 dC,g 4 dC,g 5 dC,g 6 dC,g 7 dC,g 8 dC,g 9 dC,PA.mk λw2 k2 s2 g2=>?_⟩;refine storeAll (aI e a1 n1 c1) g2 rfl λw3 k3 s3 h=>?_;have p:ai Y w3:=k2.new k3 λn k=>.inr oM;refine⟨_,_,_,_,_,_,_,_,_,_,_,_,ae h rfl,ae h rfl,ae h rfl,ae h rfl,ae h rfl,ae h rfl,ae h rfl,ae h rfl,ae h rfl,ae h rfl,?_⟩;refine PC.ok (EN (V.af (m.then p)) (hd.af p) s λn k=>by have:=W n k;have:=(m.then p).size;omega) ?_;rintro _ R ⟨a4,n4,c4,F4,rfl,r,S,T⟩
  by_cases t:e.aN.length<=64
  ·have y:=rm s t
   rw[y]at r⊢;have b1:=NH s t;refine⟨_,_,_,_,rfl,al.eK (λj=>Zz rfl j) (λ_=>?_)⟩;have z:=p.then S;have a0:Row gl 1 R F4 a4 n4 (ob e):=r.row (bytes:=1) dC (by unfold aR;dsimp only;omega);have b2:=z.size;have b3:=p.size;refine AF (o.af z) tZ a0 (λe=>r.Pd e) (λn k=>⟨r.aF n k,λj=>by have:=o.aF n (o.self n j);have:=T n k;omega⟩) (by unfold aR;omega) (by unfold maxLen;omega) λb4 c5 w5 F5 a3 a6 a7 _=>?_;have A:H.take (P+1)=H.take P++[e]:=by rw[Qw,Q];rfl
   refine⟨_,_,_,rfl,a-(P+1),oM,P+1,F5,aq oM,oM,rfl,?_,?_,?_,(m.then z).new a6 λn k=>.inr (by have:=w n (o.self n k);omega),?_⟩
   ·rw[A]
    intro a2 B;rcases Q6.1 B with M|M
    ·exact v a2 M
    ·simp at M;subst M;exact⟨s,t⟩
   ·rw[A,oY];simp;omega
   ·rw[A,oY];exact a3
   ·intro n k
    have:=m.size;rcases a7 n k with M|M|M
    ·exact w n M
    ·have:=T n M;omega
    ·omega
  ·have y:=yH t
   rw[y]at r⊢;refine⟨_,_,_,_,rfl,al.eK (λ_=>?_) (λj=>Zz j dC)⟩;have a5:H.any eQ=true:=List.any_eq_true.2 ⟨e,QZ Q,by unfold eQ;simp;omega⟩;rw[show bJ H=([],3) by unfold bJ;rw[Zx a5]];exact Ok.mk ⟨none,0,0,λ_=>False,rfl,aU.nil R,(m.then p).then S,λ_ u=>u.elim⟩
 ·obtain rfl:P=a:=oM
  rw[Qz oM]at v Z o;have a8:H.any eQ=false:=by
   rw[<-Bool.not_eq_true];intro j;obtain⟨e,he,U⟩:=List.any_eq_true.1 j;have:=(v e he).2;unfold eQ at U;simp at U;omega
  rw[show bJ H=(az H,0) by unfold bJ;rw[Zq (by simp[a8])]];exact Ok.mk ⟨_,_,_,l,rfl,o,m,w⟩
def bD(no:Int)(d:List UInt8)(D:ak):Int×ak:=
 let n:=cH (ax no)
 let P:=D.create n
 if P.1≠0 then(P.1,P.2)else
 let a:=P.2.append n d
 if a.1≠0 then(a.1,(a.2.delete n).2)else
 let b:=a.2.sync n
 if b.1≠0 then(b.1,(b.2.delete n).2)else
 let c:=bz b.2 [no]
 (c.1,if c.1≠0 then(c.2.delete n).2 else c.2)
def Pe{D:ak}{no:Int}(hL:Laid b)(L:aY b k a D f)(R:aM no)(e:Row gl 1 k a5 d c w)(c3:d=none->c=0/\i=0)(b2:∀n,a5 n->f n):
  ba 143 #[LL a,WP no,.slice d c i] k (Ok (od b k a f (bD no w D))):=by
 have e3:=L.gr.size;have S:∀n,f n->n<k.heap.size:=by obtain⟨a4,f1,f2,T,U⟩:=L;exact U
 refine zR (PA.mk λx k1 s1 g1=>PA.mk λw2 V s2 g2=>PC.ok (kf (hL.af ((L.gr.then k1).then V)) R) ?_);rintro _ W ⟨rfl,M⟩;have z3:=M.size;refine⟨_,rfl,PA.mk λw4 X s4 g4=>PS.mk g4 sM λY Z s5 g5=>?_⟩
 let s:RK:=λn=>f n\/(n=k.heap.size\/n=x.heap.size\/n=W.heap.size)
 have b3:ai k Y:=((((k1.then V).then M).then X)).new Z λn e=>.inr oM;have d0:aY b Y a D s:=L.add b3 λn e=>by omega
 let y:World->Int->Prop:=λh l=>h.heap[k.heap.size]? =some (.cells #[LL a] 93 (0,0))/\h.heap[x.heap.size]? =some (.cells #[WP l] 34 (0,0))/\h.heap[W.heap.size]? =some (.cells #[.string (cH (ax no))] 9 (0,0))
 have C5:y Y 0:=⟨Z.get (X.get (M.get (V.get g1 id) id) id) oM,Z.get (X.get (M.get g2 id) id) oM,g5⟩
 have g:∀{h o:World} {l:Int},y h l->aj (dX s) h o->y o l:=λm t=>
  ⟨t.get m.1 λp=>p (.inr (.inl rfl)),t.get m.2.1 λp=>p (.inr (.inr (.inl rfl))),t.get m.2.2 λp=>p (.inr (.inr (.inr rfl)))⟩
 have H:∀{h o:World},aj (dX f) k h->aj (dX s) h o->aj (dX f) k o:=λd n=>d.then (n.mono λn _ e q=>e (.inl q));have P:∀{h:World} {l B:Int} {u:ak} {κ:ac},y h l->aY b h a u s->aj (dX f) k h->(∀o,y o B->aY b o a u s->aj (dX f) k o->aj (·=x.heap.size) h o->κ o)->PS h ⟨x.heap.size,0,none⟩ (WP B) κ:=by
  intro h l B u κ m hN t a0;have h1:=aA m.2.1;refine PS.mk m.2.1 sM λo z e4 d1=>a0 o ⟨z.get m.1 oM,d1,z.get m.2.2 oM⟩ ?_ (t.then (z.mono λn _ e q=>by have:=S n q;omega)) z;obtain⟨a4,f1,f2,T,U⟩:=hN;exact⟨a4,f1.keep z λn e l=>(T n e).2 (.inr (.inr (.inl l))),f2.new z λn e=>.inr oM,T,λn e=>Qk (U n e) z.size⟩
 have j:∀{I:Int×ak} (l:Int) (u:ak) (h:World),aY b h a u s->aj (dX f) k h->y h l->I=(l,if l≠0 then(u.delete (cH (ax no))).2 else u)->
   Lv PP (λb4=>∃b5:Int,b4.cell? ⟨x.heap.size,0,none⟩=some (WP b5)/\Ok (od b k a f I) (.returned (WP b5)) b4) (λch h=>Ok (od b k a f I) (.panicked ch) h)
    ([{target:=.fn (.func 212) #[LL x.heap.size,LL k.heap.size,LL W.heap.size],args:= #[]}]:List Deferred) .returning h:=by
  intro I l u h p t m hr;refine Lv.one sM kR (CallsD.mono (uq (R:=λB J=>B= .returned (.tuple #[])/\∃b6:Int,J.cell? ⟨x.heap.size,0,none⟩=some (WP b6)/\Ok (od b k a f I) (.returned (WP b6)) J) ⟨_,ae m.2.1 rfl,al.eK (λr=>⟨_,ae m.1 rfl,_,ae m.2.2 rfl,PC.ok p.delete ?_⟩) (λA=>⟨rfl,_,ae m.2.1 rfl,Ok.mk ?_⟩)⟩) ?_)
  ·rintro _ wb ⟨rfl,d2,kb⟩
   have d3:=g m kb;refine⟨_,rfl,rfl,_,ae d3.2.1 rfl,Ok.mk ?_⟩;rw[hr,Zx r];exact⟨rfl,d2.mono λn e=>.inl e,H t kb⟩
  ·rw[hr,Zq (by simpa using A)]
   exact⟨rfl,p.mono λn e=>.inl e,t⟩
  ·rintro B u' J ⟨rfl,rfl,S⟩
   exact Lv.ret rfl S
 refine⟨_,ae C5.1 rfl,_,ae C5.2.2 rfl,PC.ok d0.create ?_⟩;rintro _ w6 ⟨rfl,b7,k6⟩;have C6:=g C5 k6;have d4:=H (ai.keep b3) k6;have hW:bD no w D=if(D.create (cH (ax no))).1≠0 then((D.create (cH (ax no))).1,(D.create (cH (ax no))).2)else
   if((D.create (cH (ax no))).2.append (cH (ax no)) w).1≠0 then(((D.create (cH (ax no))).2.append (cH (ax no)) w).1,(((D.create (cH (ax no))).2.append (cH (ax no)) w).2.delete (cH (ax no))).2)else
   if((((D.create (cH (ax no))).2.append (cH (ax no)) w).2).sync (cH (ax no))).1≠0 then(((((D.create (cH (ax no))).2.append (cH (ax no)) w).2).sync (cH (ax no))).1,(((((D.create (cH (ax no))).2.append (cH (ax no)) w).2).sync (cH (ax no))).2.delete (cH (ax no))).2)else
   ((bz ((((D.create (cH (ax no))).2.append (cH (ax no)) w).2).sync (cH (ax no))).2 [no]).1,if(bz ((((D.create (cH (ax no))).2.append (cH (ax no)) w).2).sync (cH (ax no))).2 [no]).1≠0 then((bz ((((D.create (cH (ax no))).2.append (cH (ax no)) w).2).sync (cH (ax no))).2 [no]).2.delete (cH (ax no))).2 else(bz ((((D.create (cH (ax no))).2.append (cH (ax no)) w).2).sync (cH (ax no))).2 [no]).2):=rfl
 rw[hW];generalize D.create (cH (ax no))=cr at b7⊢;refine⟨_,rfl,P C6 b7 d4 λJ C b8 a1 k7=>⟨_,ae C.2.1 rfl,al.eK (λr=>?_) (λA=>?_)⟩⟩
 ·refine⟨_,ae C.2.1 rfl,P C b8 a1 λw8 C8 N a6 k8=>⟨_,ae C8.2.1 rfl,Ok.mk ?_⟩⟩
  rw[Zx r];exact⟨rfl,N.mono λn e=>.inl e,a6⟩
 rw[Zq (by simpa using A)];have d5:Row gl 1 J a5 d c w:=e.keep a1 λn e p=>p (b2 n e);refine⟨_,ae C.1 rfl,_,ae C.2.2 rfl,PC.ok (b8.append d5 c3 λn e=>.inr (.inl (b2 n e))) ?_⟩;rintro _ w8 ⟨rfl,N,k8⟩;have C8:=g C k8;have a6:=H a1 k8;generalize cr.2.append (cH (ax no)) w=ap at N⊢;refine⟨_,rfl,P C8 N a6 λw9 E b9 c1 k9=>⟨_,ae E.2.1 rfl,al.eK (λr=>?_) (λA=>?_)⟩⟩
 ·refine⟨_,ae E.2.1 rfl,P E b9 c1 λc2 a7 O a2 a8=>?_⟩
  rw[Zx r];exact j _ _ c2 O a2 a7 (by rw[Zx r])
 rw[Zq (by simpa using A)];refine⟨_,ae E.1 rfl,_,ae E.2.2 rfl,PC.ok b9.sync ?_⟩;rintro _ c2 ⟨rfl,O,a8⟩;have a7:=g E a8;have a2:=H c1 a8;generalize ap.2.sync (cH (ax no))=sy at O⊢;refine⟨_,rfl,P a7 O a2 λa9 K b1 c0 e5=>⟨_,ae K.2.1 rfl,al.eK (λr=>?_) (λA=>?_)⟩⟩
 ·refine⟨_,ae K.2.1 rfl,P K b1 c0 λF b0 a3 c5 Q=>?_⟩
  rw[Zx r];exact j _ _ F a3 c5 b0 (by rw[Zx r])
 rw[Zq (by simpa using A)];refine⟨_,ae K.1 rfl,PA.mk λF Q e6 c4=>?_⟩;have a3:aY b F a sy.2 (λn=>s n\/n=a9.heap.size):=b1.add Q λn e=>by subst e;exact⟨Q4 _,aA c4⟩
 have c6:Row aP 8 F (·=a9.heap.size) (L1 a9.heap.size) 1 [no]:=Row.lit c4 [no] rfl (λc7 q=>by simp at q;subst q;exact R) (by unfold aR;simp);refine PC.ok (a3.bz hL.pW c6 (λc7 q=>by simp at q;subst q;exact R) λn e=>.inr (.inr e)) ?_;rintro _ d6 ⟨rfl,c8,d7⟩;have v:aj (dX s) F d6:=d7.mono λn _ e hy=>e (.inl hy);have b0:y F sy.1:=g K (ai.keep Q);have d8:=g b0 v;have c9:=H (c0.af Q) v;exact⟨_,rfl,P d8 (c8.mono λn e=>.inl e) c9 λd9 e0 e1 e2 e7=>j _ _ d9 e1 e2 e0 rfl⟩
def jJ:List Int->ak->ak
 |[],D=>D
 |no::n,D=>if(D.delete (ay no)).1≠0 then(D.delete (ay no)).2 else jJ n (D.delete (ay no)).2
def aQ(n:dv)(D:ak)(P:List ah)(a:Int):oZ:=
 if(bJ P).2≠0 then⟨(bJ P).2,[],n,D⟩else
 if(bD n.next (bJ P).1 D).1≠0 then⟨(bD n.next (bJ P).1 D).1,[],n,(bD n.next (bJ P).1 D).2⟩else
 aS (jJ n.a_ (bD n.next (bJ P).1 D).2) a
def L_(c g:World)(d h:Nat)(i:dv)(a:RK)(P:oZ)(e:Value)(b:World):Prop:=
 ∃G,jy b d h G i/\(∀n,G n->c.heap.size<=n/\¬a n)/\aj (dX a) g b/\
  ((P.no≠0/\e= .tuple #[.pointer none,WP P.no]/\aY c b d P.D (λn=>a n\/G n))\/
   (P.no=0/\∃f,e= .tuple #[LL f,WP 0]/\cI c b d f P.V P.D (λn=>a n\/G n)))
def Jg{D:ak}{U a2:Nat}(z:Laid b)(V:cI b k a c b4 D f)(W:Row kY 96 k a5 d U H)(b3:∀n,a5 n->n<k.heap.size)(hl:H.length<=20000000):
  ba 87 #[LL a,LL c,.slice d U a2,WP e] k (Ok (L_ b k a c b4 f (aQ b4 D H e))):=by
 obtain⟨G,I,u,A⟩:=id V;have c4:=u.many;refine vC (PC.ok (LZ (z.af V.gr) W b3 hl) ?_);rintro _ w1 ⟨a4,n1,c1,F1,rfl,J,p,b5⟩;have hz:∀n,(f n\/G n)->n<k.heap.size:=by obtain⟨d1,f1,f2,f3,f4⟩:=I;exact f4
 refine⟨_,_,_,_,rfl,al.eK (λh=>Ok.mk ?_) (λq=>PC.ok (RX (u.af p)) ?_)⟩
 ·rw[show aQ b4 D H e=⟨(bJ H).2,[],b4,D⟩ by unfold aQ;rw[Zx h]]
  exact⟨G,u.af p,A,ai.keep p,.inl ⟨h,rfl,I.af p⟩⟩
 rintro _ _ ⟨rfl,rfl⟩;have b6:aY b w1 a D (λn=>(f n\/G n)\/F1 n):=I.add p λn P=>⟨b5 n P,J.aF n P⟩
 have d2:(bJ H).1.length<=13500000000:=by
  unfold bJ;split
  ·simp
  ·rename_i b8
   have:∀m∈H,m.Ok/\m.aN.length<=64:=λm X=>by
    obtain⟨i,hi⟩:=List.mem_iff_getElem?.1 X;obtain⟨n,v,es,-,-,-,-,a4,n1,c1,-,-,b9⟩:=W.el i m hi;refine⟨b9,?_⟩;have:¬eQ m=true:=λK=>b8 (List.any_eq_true.2 ⟨m,X,K⟩);unfold eQ at this;simp at this;omega
   have:=Jh this;show(az H).length<=_;omega
 refine⟨_,rfl,PC.ok (Pe z b6 u.BV (J.row (bytes:=1) dC (by unfold aR;omega)) (λm=>J.Pd m) λn P=>.inr P) ?_⟩;rintro _ Y ⟨rfl,c2,Z⟩;have L:aY b Y a (bD b4.next (bJ H).1 D).2 (λn=>f n\/G n):=c2.mono λn P=>.inl P;have M:=(u.af p).keep Z λn P j=>j (.inl (.inr P));have a6:aj (dX f) k Y:=(ai.keep p).then (Z.mono λn _ P l=>P (.inl (.inl l)));have hC:aQ b4 D H e=if(bD b4.next (bJ H).1 D).1≠0 then⟨(bD b4.next (bJ H).1 D).1,[],b4,(bD b4.next (bJ H).1 D).2⟩else aS (jJ b4.a_ (bD b4.next (bJ H).1 D).2) e:=by
  unfold aQ;rw[Zq (by simpa using q)]
 rw[hC];generalize bD b4.next (bJ H).1 D=w at L⊢;refine⟨_,rfl,al.eK (λh=>Ok.mk ?_) (λq=>?_)⟩
 ·rw[Zx h]
  exact⟨G,M,A,a6,.inl ⟨h,rfl,L⟩⟩
 rw[Zq (by simpa using q)];refine⟨λo=>aY b o a (jJ b4.a_ w.2) (λn=>f n\/G n)/\jy o a c G b4/\aj (dX f) k o,PC.ok (Hf M) ?_,?_⟩
 ·rintro _ w3 ⟨a3,s,c3,B,rfl,N,O,c5⟩
  have d3:=N.len dC;have Q:aY b w3 a w.2 (λn=>(f n\/G n)\/B n):=L.add O λn P=>⟨c5 n P,N.aF n P⟩
  refine⟨_,_,_,rfl,λa0 a1 o=>∃(g:Nat) (r:ak),a1=g/\g<=s/\a0=s-g/\jJ b4.a_ w.2=jJ (b4.a_.drop g) r/\aY b o a r (λn=>(f n\/G n)\/B n)/\aU aP 3 B o a3 s c3 b4.a_/\jy o a c G b4/\aj (dX f) k o,
   ⟨_,0,w.2,rfl,Qj _,rfl,rfl,Q,N,M.af O,a6.af O⟩,?_⟩
  rintro a0 a1 _ w4 ⟨g,r,rfl,hj,rfl,C,x,R,a7,a8⟩;refine al.dec (λd4=>?_) (λd5=>?_)
  ·have c6:Row aP 8 w4 B a3 s b4.a_:=R.row dC (by unfold aR;omega)
   obtain⟨n,v,t,rfl,l,c7,K⟩:=c6.ns (i:=g) oM;refine⟨n,v,rfl,oM,oM,t,K,PC.ok (kf (z.af x.gr) c7) ?_⟩;rintro _ w5 ⟨rfl,E⟩;refine⟨_,rfl,PC.ok (x.af E).delete ?_⟩;rintro _ w6 ⟨rfl,S,T⟩;have b7:b4.a_.drop g=t::b4.a_.drop (g+1):=by
    obtain⟨c8,rfl⟩:=Qv.1 l;exact X4 c8
   rw[b7]at C;have F:jJ b4.a_ w.2=if(r.delete (cH (ax t))).1≠0 then(r.delete (cH (ax t))).2 else jJ (b4.a_.drop (g+1)) (r.delete (cH (ax t))).2:=C
   have a9:=(a7.af E).keep T λn P j=>j (.inl (.inr P));have b0:aj (dX f) k w6:=(a8.af E).then (T.mono λn _ P l=>P (.inl (.inl l)));have c9:=(R.af E).keep T λn P j=>j (.inr P);generalize r.delete (cH (ax t))=c0 at F S⊢;refine⟨_,rfl,al.eK (λh=>?_) (λq=>?_)⟩
   ·rw[F,Zx h]
    exact⟨S.mono λn P=>.inl P,a9,b0⟩
   ·rw[Zq (by simpa using q)]at F
    exact⟨s-(g+1),oM,g+1,c0.2,aq oM,oM,rfl,F,S,c9,a9,b0⟩
  ·obtain rfl:g=s:=oM
   rw[List.drop_of_length_le oM]at C;rw[C];exact⟨x.mono λn P=>.inl P,a7,a8⟩
 ·rintro _ w3 ⟨Q,b1,b2⟩
  refine PC.ok (Ji (size:=e) z Q) ?_;rintro _ w4 (⟨h,rfl,x,y⟩|⟨q,q2,d6,n4,d7,G4,rfl,R,d0,y,-,-,-⟩)
  ·exact⟨_,_,_,_,_,rfl,Ok.mk ⟨G,b1.keep y λn P j=>j (.inr P),A,b2.then (y.mono λn _ P l=>P (.inl l)),.inl ⟨h,rfl,x⟩⟩⟩
  ·exact⟨_,_,_,_,_,rfl,Ok.mk ⟨G,b1.keep y λn P j=>j (.inr P),A,b2.then (y.mono λn _ P l=>P (.inl l)),.inr ⟨q,q2,rfl,d0.mono λn P=>.inl P⟩⟩⟩
def qW{l:List ah}(P:∀n∈l,n.Ok/\n.aN.length<=64):bF (az l)=(l,(az l).length):=by
 have:=yY P [];rw[List.append_nil,rW]at this;simpa using this
def FG(n:List ah)(P:Nat):(az n).take (az (n.take P)).length=az (n.take P):=by
 conv=>lhs;rw[<-ZX P n,gv]
 rw[show(List.take P (List.take P n++List.drop P n))=n.take P by rw[ZX]];exact List.take_left
def yj(n:0<=e/\e<1000000000000):h_ (ay e)=(e,true):=by
 unfold h_ ay;rw[ox,px n.1 n.2];simp;omega
def U_(n:Int)(P:ByteArray):n<=eG n P:=by unfold eG;split<;>omega
def Oa:∀(P:List ByteArray) (n:Int),n<=P.foldl eG n
 |[],n=>Int.le_refl n
 |s::P,n=>Int.le_trans (U_ n s) (Oa P _)
def JQ:∀(n:List ByteArray) (b:Int) {P:ByteArray},P∈n->(h_ P).2=true->(h_ P).1+1<=n.foldl eG b
 |d::n,b,P,a,c=>by
  rcases Q2.1 a with rfl|a
  ·refine Int.le_trans ?_ (Oa n _)
   unfold eG;rw[Zx c];omega
  ·exact JQ n _ a c
def Jy{D:ak}(n:0<=e/\e<1000000000000)(a:(an D.files (ay e)).isSome=true):e<iz D:=by
 have P:=JQ D.list 1 (FH.2 a) (by rw[yj n]);rw[yj n]at P;unfold iz tK;simp only at P;omega
section
variable {D E:ak} {A:oF} {no:Int} {l x:List ah} {k j n s:Nat} {V:dv}
def JA(A:oF)(k:Nat):Nat:=((A.map (·.2)).flatten).length+k
def Yf(n:Int)(A:oF):Prop:=∀P∈A,n<=((az P.2).length:Nat)
def yS(h:cF D A no l k)(i:EM V A no l)(I:∀c∈x,c.Ok)(T:x.length<=20000000)(J:D.Ok)(m:Yf V.size A):
  ∃P a b d,cF (aE V D x).2.2 P a b d/\EM (aE V D x).2.1 P a b/\JA A k<=JA P d/\cj P b=(if(aE V D x).1=0 then cj A l++x else cj A l)/\(aE V D x).2.1.size=V.size/\Yf V.size P/\
   ((P=A/\a=no/\(aE V D x).2.1.next=V.next)\/(P=A++[(no,l)]/\a=V.next/\(aE V D x).2.1.next=V.next+1)):=by
 unfold aE
 by_cases u:x.any eQ=true
 ·rw[Zx u]
  exact⟨A,no,l,k,h,i,Q4 _,rfl,rfl,m,.inl ⟨rfl,rfl,rfl⟩⟩
 rw[Zq u]
 by_cases v:x=[]
 ·rw[Zx v]
  exact⟨A,no,l,k,h,i,Q4 _,by rw[Zx rfl,v,List.append_nil],rfl,m,.inl ⟨rfl,rfl,rfl⟩⟩
 rw[Zq v];have B:∀c∈x,c.Ok/\c.aN.length<=64:=λc o=>⟨I c o,by
  have:¬eQ c=true:=λf=>u (List.any_eq_true.2 ⟨c,o,f⟩);unfold eQ at this;simp at this;omega⟩
 have U:=Jh B;have K:(az l).length<=262144:=by
  obtain⟨s,w,_⟩:=h.last;exact J.len (cx w)
 have g:∀(n:Int×dv×ak) (P:oF) (a:Int) (b:List ah) (d:Nat),n.1=0->cF n.2.2 P a b d->EM n.2.1 P a b->(az b).length<=262144->JA A k<=JA P d->cj P b=cj A l->n.2.1.size=V.size->Yf V.size P->
   ((P=A/\a=no/\n.2.1.next=V.next)\/(P=A++[(no,l)]/\a=V.next/\n.2.1.next=V.next+1))->
   ∃P a b d,cF (if n.1≠0 then n else if(n.2.2.append n.2.1.last (az x)).1≠0 then((n.2.2.append n.2.1.last (az x)).1,n.2.1,(n.2.2.append n.2.1.last (az x)).2)else(0,⟨n.2.1.size,n.2.1.a_,GT .i64 (n.2.1.bytes+((az x).length:Nat)),n.2.1.next⟩,(n.2.2.append n.2.1.last (az x)).2)).2.2 P a b d/\
    EM (if n.1≠0 then n else if(n.2.2.append n.2.1.last (az x)).1≠0 then((n.2.2.append n.2.1.last (az x)).1,n.2.1,(n.2.2.append n.2.1.last (az x)).2)else(0,⟨n.2.1.size,n.2.1.a_,GT .i64 (n.2.1.bytes+((az x).length:Nat)),n.2.1.next⟩,(n.2.2.append n.2.1.last (az x)).2)).2.1 P a b/\JA A k<=JA P d/\
    cj P b=(if(if n.1≠0 then n else if(n.2.2.append n.2.1.last (az x)).1≠0 then((n.2.2.append n.2.1.last (az x)).1,n.2.1,(n.2.2.append n.2.1.last (az x)).2)else(0,⟨n.2.1.size,n.2.1.a_,GT .i64 (n.2.1.bytes+((az x).length:Nat)),n.2.1.next⟩,(n.2.2.append n.2.1.last (az x)).2)).1=0 then cj A l++x else cj A l)/\
    (if n.1≠0 then n else if(n.2.2.append n.2.1.last (az x)).1≠0 then((n.2.2.append n.2.1.last (az x)).1,n.2.1,(n.2.2.append n.2.1.last (az x)).2)else(0,⟨n.2.1.size,n.2.1.a_,GT .i64 (n.2.1.bytes+((az x).length:Nat)),n.2.1.next⟩,(n.2.2.append n.2.1.last (az x)).2)).2.1.size=V.size/\Yf V.size P/\
    ((P=A/\a=no/\(if n.1≠0 then n else if(n.2.2.append n.2.1.last (az x)).1≠0 then((n.2.2.append n.2.1.last (az x)).1,n.2.1,(n.2.2.append n.2.1.last (az x)).2)else(0,⟨n.2.1.size,n.2.1.a_,GT .i64 (n.2.1.bytes+((az x).length:Nat)),n.2.1.next⟩,(n.2.2.append n.2.1.last (az x)).2)).2.1.next=V.next)\/
     (P=A++[(no,l)]/\a=V.next/\(if n.1≠0 then n else if(n.2.2.append n.2.1.last (az x)).1≠0 then((n.2.2.append n.2.1.last (az x)).1,n.2.1,(n.2.2.append n.2.1.last (az x)).2)else(0,⟨n.2.1.size,n.2.1.a_,GT .i64 (n.2.1.bytes+((az x).length:Nat)),n.2.1.next⟩,(n.2.2.append n.2.1.last (az x)).2)).2.1.next=V.next+1)):=by
  intro n P a b d L j e W C o E F f;rw[Zq (by simpa using L)];rw[cF.uT e];rcases lF n.2.2 (ay a) (az x)with⟨r,y⟩|⟨r,X,p,y⟩
  ·rw[Zx r]
   exact⟨P,a,b,d,j.files y,e,C,by rw[Zq r];exact o,E,F,f⟩
  ·rw[Zq (by simpa using r)]
   obtain⟨s,w,M,Y⟩:=j.last;rw[w]at p;cases p
   refine⟨P,a,b++x,d,j.put (s:=s) (by rw[y,gv]) (by have:=j.kl;simp;omega) ?_ (by rw[gv];simp;omega) ?_,⟨e.a_,?_,e.next⟩,C,?_,E,F,f⟩
   ·rw[List.take_append_of_le_length j.kl];exact M
   ·intro c N
    rcases Q6.1 N with H|H
    ·exact j.YK c H
    ·exact B c H
   ·show GT .i64 _=_
    rw[e.bytes,wrap_i64 (by unfold aM;omega),gv];simp
   ·rw[Zx rfl,<-o];simp[cj]
 dsimp only
 by_cases f:V.size<=V.bytes
 ·rw[Zx f]
  rcases h.begin i with⟨t,q,z⟩|⟨t,q,z,O,Q⟩
  ·rw[Zx t]
   exact⟨A,no,l,k,z,by rw[q];exact i,Q4 _,by rw[Zq t],by rw[q],m,.inl ⟨rfl,rfl,by rw[q]⟩⟩
  ·refine g _ (A++[(no,l)]) V.next [] 0 t z O (by simp[az]) ?_ (by rw[CD,List.append_nil]) q ?_ (.inr ⟨rfl,rfl,Q⟩)
   ·have:=h.kl;unfold JA;simp;omega
   ·intro R S
    rcases Q6.1 S with H|H
    ·exact m R H
    ·rw[List.mem_singleton]at H;subst H
     rw[i.bytes]at f;exact f
 ·rw[Zq f]
  exact g (0,V,D) A no l k rfl h i K (Q4 _) rfl rfl m (.inl ⟨rfl,rfl,rfl⟩)
def HB(s:cf D)(t:Tidy D.files)(a:0<=V.next/\V.next<1000000000000)(b:an D.files (ay V.next)=none):
  cf (bA V D).2.2/\((bA V D).1=0\/(bA V D).1=3\/(bA V D).1=12)/\((bA V D).1≠0->an (bA V D).2.2.files (ay V.next)=none):=by
 obtain⟨x,nt⟩:=fy (n:=V.next) (.inr a);unfold bA;dsimp only;rw[show cH (ax V.next)=ay V.next from rfl];obtain⟨c,d⟩:=s.create (ay V.next);have d:=d ((uf a.1).2 a.2) b;rcases jK D (ay V.next)with⟨e,k⟩|⟨e,k,y,l⟩
 ·rw[Zx e]
  exact⟨c,d.imp id .inr,λ_=>by show an (D.create _).2.files _=none;rw[k];exact b⟩
 rw[Zq (show¬(D.create (ay V.next)).1≠0 by simpa using e)];have f:ug (ay V.next) D (D.create (ay V.next)).2:=(ug.refl t).put l;have m:an (D.create (ay V.next)).2.files (ay V.next)=some ⟨[],0,false⟩:=by rw[l,bl];simp
 generalize(D.create (ay V.next)).2=P at f m c;unfold lP;dsimp only;rw[show cH (ax V.next)=ay V.next from rfl];obtain⟨o,g⟩:=c.sync (ay V.next);have g:=g _ m;rw[Zq (show¬(P.sync (ay V.next)).1≠0 by simpa using g)];have h:Tidy (P.sync (ay V.next)).2.files:=by
  rcases lG P (ay V.next)with⟨i,n⟩|⟨i,z,b,n⟩
  ·rw[n];exact f.1
  ·rw[n];exact f.1.aJ _ _
 generalize(P.sync (ay V.next)).2=j at h o;obtain⟨p,u⟩:=o.bz h (V.a_++[V.next]);have mt:Tidy (bz j (V.a_++[V.next])).2.files:=by
  rcases LJ h (V.a_++[V.next])with⟨-,q,-⟩|⟨-,-,q,-⟩<;>exact q
 by_cases r:(bz j (V.a_++[V.next])).1=0
 ·rw[Zq (by simpa using r)]
  exact⟨p,.inl rfl,λv=>Zz rfl v⟩
 ·rw[Zx r]
  obtain⟨i,n⟩:=p.delete (ay V.next);refine⟨i,u,λ_=>?_⟩;show an ((bz j (V.a_++[V.next])).2.delete (ay V.next)).2.files _=none;rcases n with n|⟨n,w⟩
  ·rw[n,gh mt];simp
  ·rw[w];exact n
def VT(V:dv)(D:ak):Prop:=∀n,V.next<=n->n<1000000000000->an D.files (ay n)=none
end
section
variable {D E:ak} {A:oF} {no:Int} {l x:List ah} {k j n s:Nat} {V:dv}
def cf.read(n:cf D)(P:an D.files y=some X):D.read y=(X.bytes,0):=by
 unfold ak.read;rw[n.dead,P];rfl
def cf.told(n:cf D)(P:an D.files b_=some (dU (bS u)))(a:∀x∈u,aM x)(b:u.length<=64):told D=u:=by
 unfold Go.Proofs.YtjgjkeponbeekaaGreatDoor.told dF;rw[n.read P,Zq sM,show(dU (bS u)).bytes=bS u from rfl,oP a b];rfl
def yZ(d:cf D):∀(A:oF) (n:List Int) (P:List ah) (V:dv),(∀x∈A,an D.files (ay x.1)=some (dU (az x.2)))->(∀a∈(A.map (·.2)).flatten,a.Ok/\a.aN.length<=64)->
  ∃b,cO (cY A++n) P V D=cO n (P++(A.map (·.2)).flatten) ⟨V.size,V.a_++cY A,b,V.next⟩ D
 |[],n,P,V,_,_=>⟨V.bytes,by simp[cY]⟩
 |y::A,n,P,V,e,f=>by
  have g:=d.read (e y (QV ..));have h:=qW (l:=y.2) λa c=>f a (by simp only[QY,List.flatten_cons];exact ZV _ c);obtain⟨b,i⟩:=yZ d A n (P++y.2) ⟨V.size,V.a_++[y.1],((az y.2).length:Nat),V.next⟩ (λx j=>e x (QJ _ j)) λa c=>f a (by simp only[QY,List.flatten_cons];exact ZW _ c);refine⟨b,?_⟩;have k:cY (y::A)++n=y.1::(cY A++n):=rfl;rw[k]
  conv=>lhs;unfold cO
  have l:(dU (az y.2)).bytes=az y.2:=rfl;rw[g,Zq sM,l];dsimp only;rw[h,Zq sM];dsimp only;rw[i];simp[cY,XQ]
def PF{size:Int}(d:cf D)(r:Tidy D.files)(a:cF E A no l k)(m:∀x∈A,an D.files (ay x.1)=some (dU (az x.2)))(o:an D.files b_=some (dU (bS (cY A++[no]))))(g:an D.files (ay no)=some ⟨(az l).take n,s,true⟩)(hs:s<=min n (az l).length)(M:(az (l.take k)).length<=s):
  ∃P,k<=P/\P<=l.length/\((az l).length<=n->P=l.length)/\(aS D size).no=0/\(aS D size).out=cj A (l.take P)/\EM (aS D size).V A no (l.take P)/\(aS D size).V.size=size/\(aS D size).V.next=iz D/\
   cF (aS D size).D A no (l.take P) k/\cf (aS D size).D/\(s=min n (az l).length->cF (aS D size).D A no (l.take P) P)/\∀x,x≠ay no->an (aS D size).D.files x=an D.files x:=by
 have t:=a.YK;obtain⟨P,u,N,O,v⟩:=wP t n;have b3:=jT l P;have p:k<=P:=by
  refine Nat.le_of_not_lt λq=>?_;have Q:=v (by have:=a.kl;omega);have R:=CE (l:=l) (i:=P+1) (j:=k) q;omega
 have S:(az l).length<=n->P=l.length:=λhn=>by
  refine Nat.le_antisymm u (Nat.le_of_not_lt λq=>?_);have Q:=v q;have R:=jT l (P+1);omega
 have T:∀x∈cY A++[no],aM x:=λx e=>by have:=a.Ay x e;unfold aM;omega
 have U:(cY A++[no]).length<=64:=by have:=a.many;simpa[cY]using this
 have w:=d.told o T U;obtain⟨y,V⟩:=yZ d A [no] [] (dQ D size) m λb f=>a.evs b (ZV _ f);have z:=d.read g;simp only at z;have b4:((az l).take n).length=min n (az l).length:=Qy;have B:no<iz D:=Jy (by have:=a.uh;omega) (by rw[g];rfl);have C:=sv D.list;have F:∀b∈l.take P,b.Ok/\b.aN.length<=64:=λb f=>t b (List.mem_of_mem_take f);have W:cF ⟨D.most,aJ D.files (ay no) ⟨az l,(az l).length,true⟩,D.jz,D.left,D.dead⟩ A no l k:=by
  have X:=a.VS;have Y:=(fy (n:=no) (.inr (by have:=a.uh;omega))).1;exact⟨r.aJ _ _,λx e=>by show an (aJ _ _ _) _=_;rw[bl,Zq (by simpa using X x e)];exact m x e,⟨_,by show an (aJ _ _ _) _=_;rw[bl];simp,by exact jT l k,Q4 _⟩,a.kl,by show an (aJ _ _ _) _=_;rw[bl,Zq (by simpa using Y.symm)];exact o,a.Ay,a.zI,a.evs,a.many⟩
 have H:cO (told D) [] (dQ D size) D=cO [no] ((A.map (·.2)).flatten) ⟨size,cY A,y,iz D⟩ D:=by
  rw[w,V];simp[dQ]
 have I:cO [no] ((A.map (·.2)).flatten) ⟨size,cY A,y,iz D⟩ D=
   if(az (l.take P)).length<((az l).take n).length then⟨(D.og (ay no) (az (l.take P)).length).1,cj A (l.take P),⟨size,cY A++[no],((az (l.take P)).length:Nat),iz D⟩,(D.og (ay no) (az (l.take P)).length).2⟩
   else⟨0,cj A (l.take P),⟨size,cY A++[no],((az (l.take P)).length:Nat),iz D⟩,D⟩:=by
  unfold cO;rw[z,Zq sM];dsimp only;rw[N];dsimp only;split
  ·rfl
  ·unfold cO;rfl
 have J:∀(h:oZ),h.no=0->h.V.a_=cY A++[no]->gi (told D).length h=h:=λh Z K=>by
  unfold gi;rw[Zq (by simpa using Z),Zq (by rw[K];simp),Zq (by rw[K,w];omega)]
 have a0:aS D size=cO (told D) [] (dQ D size) D:=by
  unfold aS;rw[H,I];split
  ·exact J _ (d.og g _).1 rfl
  ·exact J _ rfl rfl
 rw[a0,H,I];refine⟨P,p,u,S,?_⟩;split
 ·rename_i b1
  obtain⟨c1,c2,c3⟩:=d.og g ((az (l.take P)).length:Nat);have a6:ij ((az (l.take P)).length:Nat) ((az l).take n).length=(az (l.take P)).length:=by unfold ij;omega
  have a7:(⟨(az l).take n,s,true⟩:bQ).cut ((az (l.take P)).length:Nat)=⟨az (l.take P),(az (l.take P)).length,true⟩:=by
   unfold bQ.cut;simp only[a6];rw[List.take_take,X2 O,FG]
  have L:(D.og (ay no) ((az (l.take P)).length:Nat)).2.files=aJ D.files (ay no) ⟨az (l.take P),(az (l.take P)).length,true⟩:=by
   rw[c2,a7];rfl
  have i:∀c,c<=P->cF (D.og (ay no) ((az (l.take P)).length:Nat)).2 A no (l.take P) c:=λc j=>
   W.put (s:=(az (l.take P)).length) (by rw[L];show _=aJ (aJ _ _ _) _ _;rw[x_]) (by simp;omega) (jT _ _) (Q4 _) F
  refine⟨c1,rfl,⟨rfl,rfl,B,C.2⟩,rfl,rfl,i k p,c3,λ_=>i P (Q4 _),λx e=>?_⟩;show an (D.og (ay no) ((az (l.take P)).length:Nat)).2.files x=_;rw[L,bl,Zq (by simpa using e)]
 ·rename_i b2
  have a8:(az (l.take P)).length=min n (az l).length:=oM
  have a9:(az l).take n=az (l.take P):=by
   rw[<-FG l P,a8,List.take_eq_take_iff];omega
  have i:∀c,c<=P->(az (l.take c)).length<=s->cF D A no (l.take P) c:=λc j b0=>
   ⟨r,m,⟨s,by rw[g,a9],by rw[List.take_take,X2 j];exact b0,oM⟩,by simp;omega,o,a.Ay,a.zI,λb f=>(Q6.1 f).elim (λh'=>a.evs b (ZV _ h')) (F b),a.many⟩
  exact⟨rfl,rfl,⟨rfl,rfl,B,C.2⟩,rfl,rfl,i k p M,d,λf=>i P (Q4 _) oM,λ_ _=>rfl⟩
def JR(P:Nat)(n:Int):aS (gU P) n=⟨(bA ⟨n,[],0,1⟩ (gU P)).1,[],(bA ⟨n,[],0,1⟩ (gU P)).2.1,(bA ⟨n,[],0,1⟩ (gU P)).2.2⟩:=by
 have a:iz (gU P)=1:=by simp[iz,tK,ak.list,gU,tC]
 have b:told (gU P)=[]:=by
  have:(gU P).read b_=([],14):=by simp[ak.read,gU,an]
  unfold told dF;rw[this];rfl
 have c:(dQ (gU P) n)=⟨n,[],0,1⟩:=by unfold dQ;rw[a]
 unfold aS;rw[b,c];unfold cO gi;rw[Zq sM,Zx rfl];unfold aH;rw[Zx rfl]
def SB(P:Nat)(n:Int):((aS (gU P) n).no=3\/(aS (gU P) n).no=12)\/
  ((aS (gU P) n).no=0/\(aS (gU P) n).out=[]/\cF (aS (gU P) n).D [] 1 [] 0/\EM (aS (gU P) n).V [] 1 []/\(aS (gU P) n).V.size=n/\(aS (gU P) n).V.next=2/\cf (aS (gU P) n).D/\VT (aS (gU P) n).V (aS (gU P) n).D):=by
 have e:cf (gU P):=⟨rfl,rfl⟩
 have c:Tidy (gU P).files:=by simp[Tidy,gU]
 rw[JR];obtain⟨f,g,s⟩:=HB (V:=⟨n,[],0,1⟩) e c ⟨sM,sM⟩ (by simp[gU,an]);rcases CF (D:=gU P) (V:=⟨n,[],0,1⟩) c sM with⟨b,h,i,j⟩|⟨b,h,i,j,a,k,l,m,o⟩
 ·exact .inl (g.resolve_left b)
 ·refine .inr ⟨b,rfl,⟨k,sM,⟨0,l,by simp[az],Qj _⟩,Q4 _,m,by simp[cY],by simp[cY],by simp[cj],sM⟩,⟨by rw[a];rfl,by rw[a];rfl,by rw[a];simp⟩,by rw[a],by rw[a];rfl,f,?_⟩
  show VT (bA ⟨n,[],0,1⟩ (gU P)).2.1 (bA ⟨n,[],0,1⟩ (gU P)).2.2;rw[a];intro p q t;simp only at q;have d:=fy (n:=p) (.inr oM);rw[o _ (λr=>by have:=ss (a:=1) oM r;omega) d.2 d.1];simp[gU,an]
end
section
variable {D E:ak} {A:oF} {no:Int} {l x:List ah} {k:Nat} {V:dv} {b:List UInt8} {size:Int}
def By:∀(b:List Int) {D:ak},Tidy D.files->Tidy (jJ b D).files/\∀P,(∀n∈b,P≠ay n)->an (jJ b D).files P=an D.files P
 |[],D,c=>⟨c,λ_ _=>rfl⟩
 |n::b,D,c=>by
  have d:Tidy (D.delete (ay n)).2.files/\∀P,P≠ay n->an (D.delete (ay n)).2.files P=an D.files P:=by
   rcases jF D (ay n)with e|e
   ·rw[e];exact⟨c,λ_ _=>rfl⟩
   ·rw[e];exact⟨c.bM _,λP a=>by rw[gh c,Zq (by simpa using a)]⟩
  unfold jJ;split
  ·exact⟨d.1,λP a=>d.2 P (a n (QV ..))⟩
  ·obtain⟨f,g⟩:=By b d.1
   exact⟨f,λP a=>(g P λh i=>a h (QJ _ i)).trans (d.2 P (a n (QV ..)))⟩
def GP(s:Tidy D.files)(t:0<=no):((bD no b D).1≠0/\Tidy (bD no b D).2.files/\∀n,n≠ay no->n≠aO->an (bD no b D).2.files n=an D.files n)\/
  ((bD no b D).1=0/\no<1000000000000/\an D.files (ay no)=none/\Tidy (bD no b D).2.files/\an (bD no b D).2.files (ay no)=some (dU b)/\
   an (bD no b D).2.files b_=some (dU (bS [no]))/\∀n,n≠ay no->n≠aO->n≠b_->an (bD no b D).2.files n=an D.files n):=by
 unfold bD;dsimp only;rw[show cH (ax no)=ay no from rfl];rcases jK D (ay no)with⟨k,l⟩|⟨k,l,B,u⟩
 ·rw[Zx k]
  exact .inl ⟨k,by show Tidy (D.create _).2.files;rw[l];exact s,λn _ _=>by show an (D.create (ay no)).2.files n=_;rw[l]⟩
 have v:=(uf t).1 l;obtain⟨C,nt⟩:=fy (n:=no) (.inr ⟨t,v⟩);rw[Zq (show¬(D.create (ay no)).1≠0 by simpa using k)];have m:ug (ay no) D (D.create (ay no)).2:=(ug.refl s).put u;have w:an (D.create (ay no)).2.files (ay no)=some ⟨[],0,false⟩:=by rw[u,bl];simp
 generalize(D.create (ay no)).2=f at m w;have d:∀{F:ak},Tidy F.files->(∀n,n≠ay no->n≠aO->an F.files n=an D.files n)->Tidy (F.delete (ay no)).2.files/\∀n,n≠ay no->n≠aO->an (F.delete (ay no)).2.files n=an D.files n:=by
  intro F q x;rcases jF F (ay no)with e|e
  ·rw[e];exact⟨q,x⟩
  ·rw[e];exact⟨q.bM _,λn a h=>by rw[gh q,Zq (by simpa using a)];exact x n a h⟩
 rcases lF f (ay no) b with⟨c,P⟩|⟨c,E,i,P⟩
 ·rw[Zx c]
  have:=d (F:=(f.append (ay no) b).2) (by rw[P];exact m.1) λn a _=>by rw[P];exact m.2 n a
  exact .inl ⟨c,this⟩
 rw[w]at i;cases i
 rw[Zq (show¬(f.append (ay no) b).1≠0 by simpa using c)];have o:ug (ay no) D (f.append (ay no) b).2:=m.put P;have y:an (f.append (ay no) b).2.files (ay no)=some ⟨b,0,false⟩:=by rw[P,bl];simp
 generalize(f.append (ay no) b).2=g at o y;rcases lG g (ay no)with⟨c,P⟩|⟨c,E,i,P⟩
 ·rw[Zx c]
  have:=d (F:=(g.sync (ay no)).2) (by rw[P];exact o.1) λn a _=>by rw[P];exact o.2 n a
  exact .inl ⟨c,this⟩
 rw[y]at i;cases i
 have p:ug (ay no) D (g.sync (ay no)).2:=o.put P;have z:an (g.sync (ay no)).2.files (ay no)=some (dU b):=by rw[P,bl];simp
 rw[Zq (show¬(g.sync (ay no)).1≠0 by simpa using c)];generalize(g.sync (ay no)).2=H at p z;rcases LJ p.1 [no]with⟨j,r⟩|⟨j,r,I,J,A⟩
 ·rw[Zx j]
  have:=d (F:=(bz H [no]).2) r.1 λn a h=>(r.2 n h).trans (p.2 n a);exact .inl ⟨j,this⟩
 ·rw[Zq (by simpa using j)]
  exact .inr ⟨j,v,B,I,(A _ nt C).trans z,J,λn a h K=>(A n h K).trans (p.2 n a)⟩
def cF.lt_next(b:cF D A no l k)(c:EM V A no l):∀n∈cY A++[no],n<V.next:=λn d=>by
 have e:=c.next;rcases Q6.1 d with P|P
 ·have a:=b.zI
  rw[List.pairwise_append]at a;have:=a.2.2 n P no (List.mem_singleton.2 rfl);omega
 ·have:=List.mem_singleton.1 P;omega
def cF.ne_next(P:cF D A no l k)(b:EM V A no l):∀n∈cY A++[no],ay n≠ay V.next:=λn a c=>by
 have d:=P.Ay n a;have e:=P.lt_next b n a;have:=ss (a:=n) ⟨oM,d.2⟩ c.symm;omega
def Un(a:0<=no):b_≠ay no:=λn=>by
 by_cases b:no<1000000000000
 ·exact(fy (n:=no) (.inr oM)).1 n.symm
 ·have P:ay no=cH []:=by unfold ay ax;rw[Zx (.inr oM)]
  rw[P]at n
  revert n;decide+kernel
def RU(P:Tidy D.files)(a:1<=no/\no<1000000000000)(b:an D.files (ay no)=some (dU (az x)))(c:an D.files b_=some (dU (bS [no])))(d:∀n∈x,n.Ok/\n.aN.length<=64):cF D [] no x x.length:=
 ⟨P,λf e=>(by cases e),⟨_,b,by rw[List.take_length];exact Q4 _,Q4 _⟩,Q4 _,c,by simpa[cY]using a,by simp[cY],by simpa[cj]using d,sM⟩
def cF.bD(n:cF D A no l k)(d:EM V A no l)(g:∀P∈x,P.Ok/\P.aN.length<=64):
  ((bD V.next (az x) D).1≠0/\cF (bD V.next (az x) D).2 A no l k)\/((bD V.next (az x) D).1=0/\V.next<1000000000000/\cF (bD V.next (az x) D).2 [] V.next x x.length):=by
 have m:=n.uh;have o:=d.next;rcases GP (b:=az x) n.tidy (show 0<=V.next by omega)with⟨a,b,c⟩|⟨a,b,c,h,i,j,p⟩
 ·exact .inl ⟨a,n.same b (λe f=>c _ (n.ne_next d e f) (fy (.inr (by have:=n.Ay e f;omega))).2) (c _ (Un oM) λP=>NG P.symm)⟩
 ·exact .inr ⟨a,b,RU h oM i j g⟩
def uj(n:D.dead=false)(P:an D.files y=some X):D.read y=(X.bytes,0):=by
 unfold ak.read;rw[n,P];rfl
def vx(d:D.dead=false):∀(A:oF) (n:List Int) (P:List ah) (V:dv),(∀x∈A,an D.files (ay x.1)=some (dU (az x.2)))->(∀a∈(A.map (·.2)).flatten,a.Ok/\a.aN.length<=64)->
  ∃b,cO (cY A++n) P V D=cO n (P++(A.map (·.2)).flatten) ⟨V.size,V.a_++cY A,b,V.next⟩ D
 |[],n,P,V,_,_=>⟨V.bytes,by simp[cY]⟩
 |y::A,n,P,V,e,f=>by
  have g:=uj d (e y (QV ..));have h:=qW (l:=y.2) λa c=>f a (by simp only[QY,List.flatten_cons];exact ZV _ c);obtain⟨b,i⟩:=vx d A n (P++y.2) ⟨V.size,V.a_++[y.1],((az y.2).length:Nat),V.next⟩ (λx j=>e x (QJ _ j)) λa c=>f a (by simp only[QY,List.flatten_cons];exact ZW _ c);refine⟨b,?_⟩;have k:cY (y::A)++n=y.1::(cY A++n):=rfl;rw[k]
  conv=>lhs;unfold cO
  have l:(dU (az y.2)).bytes=az y.2:=rfl;rw[g,Zq sM,l];dsimp only;rw[h,Zq sM];dsimp only;rw[i];simp[cY,XQ]
def LK(n:cF D A no l k)(P:D.dead=false):aS D size=⟨0,cj A l,⟨size,cY A++[no],((az l).length:Nat),iz D⟩,D⟩:=by
 obtain⟨o,c,p,q⟩:=n.last;have d:∀x∈cY A++[no],aM x:=λx e=>by have:=n.Ay x e;unfold aM;omega
 have f:(cY A++[no]).length<=64:=by have:=n.many;simpa[cY]using this
 have a:told D=cY A++[no]:=by
  unfold told dF;rw[uj P n.Xl,Zq sM,show(dU (bS (cY A++[no]))).bytes=bS (cY A++[no])from rfl,oP d f];rfl
 obtain⟨b,g⟩:=vx P A [no] [] (dQ D size) n.full λh i=>n.evs h (ZV _ i);have j:=uj P c;have m:cO (told D) [] (dQ D size) D=⟨0,cj A l,⟨size,cY A++[no],((az l).length:Nat),iz D⟩,D⟩:=by
  rw[a,g];unfold cO;rw[j,Zq sM];dsimp only;rw[qW n.YK,Zq sM];unfold cO;simp[dQ,cj]
 unfold aS;rw[m];unfold gi;rw[Zq sM,Zq sM,Zq (by rw[a];simp)]
def OZ(n:D.dead=true):(aS D size).no=15/\(aS D size).D.files=D.files:=by
 have P:told D=[]:=by
  have:D.read b_=([],15):=by unfold ak.read;rw[n];rfl
  unfold told dF;rw[this];rfl
 have a:∀V:dv,V.a_=[]->aH V D=(15,V,D.gone):=λV b=>by
  unfold aH;rw[Zx b];have c:D.create (cH (ax V.next))=(15,D.gone):=by
   unfold ak.create ak.op ak.dies;rw[n];rfl
  unfold bA;dsimp only;rw[c,Zx sM]
 unfold aS;rw[P];unfold cO gi;rw[Zq sM,Zx (show(dQ D size).a_=[]from rfl),show aH _ _=_ from a (dQ D size) rfl];exact⟨rfl,rfl⟩
end
section
variable {D E:ak} {A:oF} {no:Int} {l x:List ah} {k:Nat} {V:dv} {b:List UInt8} {size:Int} {L:List Int}
structure KK (D:ak) (no:Int) (x:List ah):Prop where
 held:cF D [] no x x.length
 alive:cf D
 none:∀y,y≠ay no->y≠b_->an D.files y=none
def RV:(h_ b_).2=false:=by decide+kernel
end
section
variable {D E:ak} {A:oF} {no:Int} {l:List ah} {k:Nat}
def Bi:∀(n:List ByteArray) {D:ak},cf D->cf (Le D n)
 |[],D,P=>P
 |s::n,D,P=>Bi n (P.delete s).1
def Bj:∀(a:List ByteArray) {D:ak},cf D->Tidy D.files->∀n,an (Le D a).files n=if n∈a then none else an D.files n
 |[],D,_,_,n=>by simp[Le]
 |P::a,D,d,b,n=>by
  show an (Le (D.delete P).2 a).files n=_;obtain⟨f,g⟩:=d.delete P;have h:Tidy (D.delete P).2.files:=by
   rcases jF D P with e|e
   ·rw[e];exact b
   ·rw[e];exact b.bM _
  have e:an (D.delete P).2.files n=if n=P then none else an D.files n:=by
   rcases g with e|⟨i,e⟩
   ·rw[e,gh b];simp
   ·rw[e];split
    ·rename_i j;rw[j,i]
    ·rfl
  rw[Bj a f h n,e]
  by_cases c:n∈a
  ·simp[c]
  ·by_cases k:n=P<;>simp[c,k]
def Lf:b_≠aO:=by decide+kernel
end
def qA:gE:=⟨[(3,[(21,WP 0)])],[],[5],[5],[(5,⟨[0,0,2,4,8,0,32,64,208,511,1023,1535],[4095,4095,4093,4091,4087,4095,4063,4031,3951,4094,3583,2815],[0,0,0,0,1,1,2,2,2,0,0,2]⟩)]⟩
def qB(z:(dr d λA B=>(rS b (ad A B) λV n W=>((0:Int)<=(if(GT .i64 (1024-(n:Int)))<(a:Int)then(GT .i64 (1024-(n:Int)))else(a:Int))/\((if(GT .i64 (1024-(n:Int)))<(a:Int)then(GT .i64 (1024-(n:Int)))else(a:Int)):Int)<=(c:Int)/\(∃i:Nat->Int->ac,(∃g,i g 0 b)/\∀(g:Nat) (P:Int) (X:Nat->Value) (e:World),i g P e->al (decide (P<((Int.toNat (if(GT .i64 (1024-(n:Int)))<(a:Int)then(GT .i64 (1024-(n:Int)))else(a:Int)):Nat):Int))) ((dr s λC D=>(0:Int)<=P/\P<((Int.toNat (if(GT .i64 (1024-(n:Int)))<(a:Int)then(GT .i64 (1024-(n:Int)))else(a:Int)):Nat):Int)/\(Ld 127 (ad C (D+Int.toNat P*5)) e λE=>PA e (.cells #[.ii 0,.ii 0,.ii 0,.slice none 0 0,.slice none 0 0] 127) λF=>St 127 (ab_ e 0) E F λG=>(∀f,bw G f->∃j:RK,(dr d λk H=>(¬j k/\(rS f (ad k H) λI J K=>(Ld 127 (ab_ e 0) f λL=>PC_ 96 #[L] f (λM h=>∃l m o p q r u v w,M= .agg #[.ii l,.ii m,.ii o,.slice p q r,.slice u v w]/\(aj j f h/\PA h (.cells #[.ii l,.ii m,.ii o,.slice p q r,.slice u v w] 127) λx=>(aj j h x/\PR_ (ap_ 69 (.slice I J K) (.slice (some (ab_ h 0)) 1 1)) x (kS_ λN O Q R=>(dr d λS T=>PS R (ad S T) (.slice N O Q) λU=>(∃y,y<g/\i y (GT .i64 (P+1)) U))) (pY t)))) (pZ t))))))))) (rt t ((.ii (GT .i64 ((a:Int)-(if(GT .i64 (1024-(n:Int)))<(a:Int)then(GT .i64 (1024-(n:Int)))else(a:Int)))))) e)))))):ba 64 #[.pointer d,.slice s a c] b t:=DC qA Tryz.func64 rfl z
end Go.Proofs.YtjgjkeponbeekaaGreatDoor
namespace Go.Proofs
open Go.RowKit Go.Maps Go.Sort Go.Shelf
def Tryz.Xd(b:Nat):AnyZI.SortsIn Tryz.prog Tryz.zu Fence.wide b:=
 ⟨λaG P n c a d e f=>callsIn_wide.2 (AnyM.slices_Sort_int Tryz.wS aG P n c a d e f),
  λg n a=>callsIn_wide.2 (AnyM.slices_Sort_int_none Tryz.wS g n a)⟩
end Go.Proofs
namespace Go.Proofs.YtjgjkeponbeekaaGreatDoor
section
open Go.ar
open Go.RowKit Go.Maps Go.Sort Go.Shelf
def wS(n:List Int):List Int:=n.mergeSort (λP a=>decide (P<=a))
variable{g9:List (Int×Value)}{a c:Nat}{F:Nat×Nat}{g:TypeId}{b:World}
def Aw(w:bV b a (Value.int .i64) g9)(H:∀f∈g9,aM f.1)(x:g9.length*8<=aR)(y:b.heap[c]? =some (.cells #[.map (some a)] g F)):
  ba 197 #[.func (.func 250) #[] #[LL c]] b
   (Ok λp z=>HU b 3 (wS (g9.map (·.1))) p z):=by
 unfold aR at x;obtain⟨d,h,I,l,J,K⟩:=w.at';have L:Tryz.prog.underlying 3=some (.int .i64):=Tryz.underlying3;have M:d.size=g9.length:=by have:=Zj List.length l;simpa using this
 have N:∀n:Int,aM n->(Lit.int .i64 n).wf=true:=λn i=>by unfold aM at i;simp[Lit.wf,IntKind.min,IntKind.max,IntKind.signed,IntKind.bits];omega
 have A:∀P∈d.toList,∃n,P.key=Value.int .i64 n/\aM n:=λP e=>by
  have O:(P.key,P.val)∈g9.map (λf=>(Value.int .i64 f.1,f.2)):=by rw[<-l];exact Xk.2 ⟨P,e,rfl⟩
  obtain⟨f,Q,R⟩:=Xk.1 O;exact⟨f.1,(Prod.mk.inj R).1.symm,H f Q⟩
 have B:∀P∈d.toList,∀n,P.key=Value.int .i64 n->aM n->WideElems.rd PP 3 (λ_=>some ((.nil:DataW Unit),[])) P=some (.int .i64 n,.nil):=λP _ n i j=>by
  simp[WideElems.rd,i,Maps.keyOf_int_mk L (N n j)]
 have S:WideElems.Fit PP 3 (λ_=>some ((.nil:DataW Unit),[])) d h:=by
  refine⟨by unfold maxLen;omega,⟨J,K,?_⟩,λP e=>?_⟩
  ·have:d.toList.map (·.key)=(g9.map (·.1)).map (Value.int .i64):=by
    have:=Zj (List.map (λq:Value×Value=>q.1)) l;simpa[Function.comp_def]using this
   rw[this];exact List.pairwise_map.2 (List.Pairwise.imp (λT=>by simpa using T) w.tidy)
  ·obtain⟨n,i,j⟩:=A P e
   exact⟨_,B P e n i j⟩
 have U:b.ownsMap PP 3 (λ_=>some ((.nil:DataW Unit),[])) a d.size (.map ((d.toList.map (WideElems.rg PP 3 (λ_=>some ((.nil:DataW Unit),[])))).foldr DataW.insert [])):=
  ⟨d,h,I,S,Q4 _,rfl⟩
 have C:Maps.size (.map ((d.toList.map (WideElems.rg PP 3 (λ_=>some ((.nil:DataW Unit),[])))).foldr DataW.insert []))=g9.length:=by
  show(List.foldr DataW.insert [] _).length=_;rw[(WideShapes.sorted_perm _).length_eq];simp[M]
 have V:(intKeys (.map ((d.toList.map (WideElems.rg PP 3 (λ_=>some ((.nil:DataW Unit),[])))).foldr DataW.insert []))).Perm (g9.map (·.1)):=by
  refine(List.Perm.map (λf:Lit×DataW Unit=>Go.intOf f.1) (WideShapes.sorted_perm _)).trans ?_;have:(d.toList.map (WideElems.rg PP 3 (λ_=>some ((.nil:DataW Unit),[])))).map (λf=>Go.intOf f.1)=g9.map (·.1):=by
   have W:d.toList.map (λP=>match P.key with| .int _ n=>n|_=>0)=g9.map (·.1):=by
    have:=Zj (List.map (λq:Value×Value=>match q.1 with| .int _ n=>n|_=>0)) l;simpa[Function.comp_def]using this
   rw[<-W,List.map_map];refine List.map_congr_left λP e=>?_;obtain⟨n,i,j⟩:=A P e;simp[WideElems.rg,B P e n i j,i,Go.intOf]
  rw[this]
 have X:SeqGives Fence.wide 1 PP 250 #[LL c] encZ (λk=>k.Perm (intKeys _)) (Maps.size _) b:=
  AnyZI.keys_gives (ρ:=Tryz.F_) {Tryz.Yy with} Fence.wide _ trivial rfl oM c a d.size _ b (aA y) (ae y rfl) U
 have Y:=AnyZI.sorted_in Tryz.Vs Fence.wide 4 trivial trivial trivial trivial rfl oM (Tryz.Xd _) (enters_of Tryz.func249 kR rfl) 250 #[LL c] trivial
  (enters_of Tryz.func250 kR rfl) _ _ (by rw[C];unfold maxLen;omega) (by rw[C];exact x) b X
 refine((callsIn_wide (n:=4)).1 Y).mono ?_;rintro P z ⟨p,k,rfl,Z,m,a5,r⟩;have E:k.mergeSort (λn a0=>decide (n<=a0))=wS (g9.map (·.1)):=mergeSort_of_perm_i (Z.trans V);have a6:k.length=(wS (g9.map (·.1))).length:=by rw[<-E];simp
 rw[E]at m;have hv:∃s t,p= .slice s k.length t:=by
  rcases m.2 with⟨rfl,h0⟩|⟨g',u,v,rfl,_⟩
  ·exact⟨none,0,by rw[h0]⟩
  ·exact⟨_,_,rfl⟩
 obtain⟨s,t,rfl⟩:=hv;refine Ok.mk ⟨s,_,t,rfl,⟨ownsRow_base_a m (Qj _)⟩,aj.Ik r,λa1 o=>?_⟩;rcases m.2 with⟨e,_⟩|⟨g',u,v,e,a7,_⟩
 ·simp only[XX]at e
  rw[e.1]at o;cases o
 ·simp only[XX]at e
  rw[e.1]at o;simp only[aG,Q1]at o;omega
end
section
open Go.ar
structure ku where
 di:Int
 asked:List (Int×Int)
 heard:List (Int×List Int)
 deriving DecidableEq
def isI(n:Value)(P:Int):Prop:=n= WP P
def Qn(d:World)(e:RK)(f:Value)(a:List Int):Prop:=
 ∃n P b,f= .slice n P b/\Own d 3 1 n P b (ints a)/\P*8<=aR/\(∀g∈a,aM g)/\∀c,aG n=some c->e c
def Qn.keep{S b F':RK}{a e:World}{f:Value}{g:List Int}(c:Qn a b f g)(l:aj S a e)(m:∀n,b n->n<a.heap.size->(∃h,a.heap[n]? =some h/\∀i j,h≠.map i j)->¬S n)(o:∀n,b n->F' n):Qn e F' f g:=by
 obtain⟨p,q,r,rfl,d,P,s,k⟩:=c;refine⟨p,q,r,rfl,d.keep l (dy.2 λn P=>?_),P,s,λn P=>o n (k n P)⟩;refine m n (k n P) (d.lt P) ?_;rcases d.cases with⟨rfl,_⟩|⟨v,t,rfl,u,_⟩
 ·cases P
 ·simp only[aG,Q1]at P
  subst P;exact⟨_,u,λi j c=>by cases c⟩
structure ey (w:World) (p:Nat) (F:RK) (T:ku):Prop where
 body:∃ra rh la lh,w.heap[p]? =some (.cells #[WP T.di,.map (some ra),.map (some rh)] 151 (0,0))/\bV w ra (Value.int .i64) la/\bV w rh (Value.int .i64) lh/\
  fH isI la T.asked/\fH (Qn w F) lh T.heard/\F ra/\F rh/\ra≠rh
 self:F p
 aF:∀b,F b->b<w.heap.size
 Kz:Tidy T.asked
 tD:∀q∈T.asked,aM q.1
variable{t:UV}{B T b1 e l:Int}{h8:List (Int×List Int)}{g9:List (Int×Value)}{b3 u:List Int}{H:List ah}{a8:List bW}{E a c c1 i o:Nat}{f:RK}{d d4 s:am}{h:Program}{j:Type}{g r:TypeId}{x:Value}{q v:UX}{b k:World}{S:aT}{I:aw}{b4:dv}{c3:ku}{d6:lE}
def ey.keep{S e:RK}(n:ey b a e c3)(c:aj S b k)(d:∀P,e P->¬S P):ey k a e c3:=by
 obtain⟨i,j,l,m,o,p,q,r,s,g,h,t⟩:=n.body;exact⟨⟨i,j,l,m,c.get o (d _ n.self),p.keep c (d _ g),q.keep c (d _ h),r,s.mono λv w u=>u.keep c (λP f _ _=>d P f) (λ_ n=>n),g,h,t⟩,
  n.self,λP f=>Qk (n.aF P f) c.size,n.Kz,n.tD⟩
def ey.af(n:ey b a f c3)(P:ai b k):ey k a f c3:=n.keep P λ_ _ n=>n
def kI:jm PP 3 (Value.int .i64):=Xt Tryz.underlying3
def mA:mP PP 148 3 3 (WP 0):=⟨kR,kR⟩
def mH:mP PP 149 3 42 (.slice none 0 0):=⟨kR,kR⟩
def Kh:ba 45 #[WP e] b
  (Ok λh c=>∃d f,h= LL d/\ey c d f ⟨e,[],[]⟩/\ai b c/\∀n,f n->b.heap.size<=n):=by
 refine DO (PA.mk λi j q k=>PA.mk λl g r m=>PA.mk λo P s p=>Ok.mk ⟨l.heap.size,λn=>b.heap.size<=n/\n<o.heap.size,rfl,
  ⟨⟨b.heap.size,i.heap.size,[],[],p,bV.new (P.get (g.get k id) id),bV.new (P.get m id),trivial,trivial,oM,oM,oM⟩,oM,λn a=>a.2,by simp[Tidy],sM⟩,
  (j.af g).af P,λn a=>a.1⟩)
def Kn(n:ey b a f c3)(t:aM e):
  ba 82 #[LL a,WP e,WP l] b
   (Ok λp i=>p= .tuple #[]/\ey i a f {c3 with asked:=aJ c3.asked e l}/\aj f b i):=by
 obtain⟨P,u,K,v,j,q,w,x,y,r,z,s⟩:=n.body;have A:∃c d,b.heap[P]? =some (.map c d):=by obtain⟨c,d,n,_⟩:=q.at';exact⟨c,d,n⟩
 obtain⟨c,d,k⟩:=A;have B:a≠P:=by rintro rfl;rw[j]at k;cases k
 refine qi ⟨a,0,rfl,some P,ae j rfl,dB mA kI q λi C g E=>Ok.mk ⟨rfl,⟨⟨P,u,_,v,g.get j B,C,w.keep g (Ne.symm s),fH.aJ (R:=isI) rfl x,?_,r,z,s⟩,n.self,?_,n.Kz.aJ _ _,?_⟩,g.mono ?_⟩⟩
 ·refine y.mono λp L F=>F.keep g (λm _ _ h=>?_) (λ_ n=>n)
  rintro rfl;obtain⟨M,h,H⟩:=h;rw[k]at h;cases h;exact H _ _ rfl
 ·intro m I;rw[E];exact n.aF m I
 ·intro J o
  rcases fE o with rfl|o
  ·exact t
  ·exact n.tD J o
 ·rintro m _ rfl;exact r
def ku.all(P:ku)(n:Int)(a:List Int):List Int:=kV ((an P.heard n).getD []) a
def HS(P n:List Int):Bool:=mU P n==0||mU P n==2
def ku.ends(a:ku)(n:Int)(b P:List Int):Bool:=(an a.asked n).isSome&&HS (a.all n b) P
def ku.Av(P:ku)(n:Int)(b a:List Int):ku:=
 {P with heard:=aJ P.heard n (P.all n b),asked:=if P.ends n b a then bM P.asked n else P.asked}
def CV(a:∀b∈u,aM b)(n:Int):aM (fU u n):=by
 unfold fU;split
 ·unfold aM;omega
 ·by_cases P:n.toNat<u.length
  ·have:=a u[n.toNat] (XY P)
   simp only[List.getD,Qq P,Option.getD_some];unfold aM at*;omega
  ·have:u[n.toNat]? =none:=by simp;omega
   simp only[List.getD,this,Option.getD_none];unfold aM;omega
def FR(a:∀n∈u,aM n)(b:∀n∈b3,aM n):∀n∈kV u b3,aM n:=by
 intro n c;obtain⟨P,_,rfl⟩:=Xk.1 c;have d:=CV a P;have e:=CV b P;unfold aM at*;omega
def HT(n P:List Int):(kV n P).length=max n.length P.length:=tB _ _ _
def ey.Vm(i:fH (Qn b f) g9 h8)(n:Int):
  ∃P a c,(an g9 n).getD (.slice none 0 0)= .slice P a c/\Ints b P a ((an h8 n).getD [])/\a*8<=aR/\∀g,aG P=some g->f g:=by
 rcases i.an n with⟨d,e⟩|⟨m,o,d,e,P,a,c,rfl,j,h,k,l⟩
 ·rw[d,e];exact⟨none,0,0,rfl,Ints.nil b,by simp[aR],by simp[aG]⟩
 ·rw[d,e];exact⟨P,a,c,rfl,j.ints h k,h,l⟩
def Kd(n:ey b a f c3)(L:Ints b d c u)(hy:Ints b s i b3)(W:b3≠[]->pJ f s):
  ba 120 #[LL a,WP e,.slice d c o,.slice s i E] b
   (Ok λr q=>∃F',r= .bool (c3.ends e u b3)/\ey q a F' (c3.Av e u b3)/\cy f b F' q):=by
 obtain⟨p,v,F,lh,H,y,X,M,h5,Y,N,O⟩:=n.body;obtain⟨k,l,Q⟩:∃k l,b.heap[v]? =some (.map k l):=by obtain⟨k,l,n,_⟩:=X.at';exact⟨k,l,n⟩
 obtain⟨c9,d0,a6⟩:∃k l,b.heap[p]? =some (.map k l):=by obtain⟨k,l,n,_⟩:=y.at';exact⟨k,l,n⟩
 have b6:a≠v:=by rintro rfl;rw[H]at Q;cases Q
 have b7:a≠p:=by rintro rfl;rw[H]at a6;cases a6
 obtain⟨ha,hn,hc,hg,R,hB,hF⟩:=ey.Vm h5 e;refine qj ⟨a,0,rfl,some v,ae H rfl,AH mH kI X ⟨ha,hn,hc,hg,PC.ok (Bu R L) ?_⟩⟩;rintro _ w1 ⟨w,z,S,rfl,Z,t,a7⟩;have b8:z=(c3.all e u).length:=by have:=Z.length;rw[jV,Nat.mul_one]at this;exact this.symm
 have a8:z*8<=aR:=by
  rw[b8];unfold ku.all;rw[HT];have:=R.len;have:=R.fe;have:=L.len;have:=L.fe;unfold aR at*;omega
 have a9:∀b9∈c3.all e u,aM b9:=FR R.Ay L.Ay;refine⟨w,z,S,rfl,a,0,rfl,some v,ae (t.get H id) rfl,dB mH kI (X.keep t id) λh b0 A c0=>?_⟩;have I:aG w≠some v:=λj=>by have:=a7 _ j;have:=aA Q;omega
 have b1:Own h 3 1 w z S (ints (c3.all e u)):=Z.keep A (dy.2 λs W=>by rintro rfl;exact I W);have c1:Ints h s i b3:=(hy.af t).Il A λc2 a0 hq=>by rintro rfl;exact W c2 a0 hq N
 refine PC.ok (Om (b1.ints a8 a9) c1) ?_;rintro _ _ ⟨rfl,rfl⟩;have T:h.heap[a]? =some (.cells #[WP c3.di,.map (some p),.map (some v)] 151 (0,0)):=A.get (t.get H id) b6;have U:bV h p (Value.int .i64) F:=(y.keep t id).keep A O;refine⟨_,rfl,?_⟩
 let F':RK:=λP=>f P\/(b.heap.size<=P/\P<w1.heap.size)
 have a1:cy f b F' h:=⟨(t.keep (S:=f)).trans A (λ_ _ n=>n) (by rintro P _ rfl;exact N),λP m=>m.imp id (·.1)⟩
 have b2:fH (Qn h F') (aJ lh e (.slice w z S)) (aJ c3.heard e (c3.all e u)):=by
  refine fH.aJ ⟨w,z,S,rfl,b1,a8,a9,λP m=>.inr ⟨a7 P m,Z.lt m⟩⟩ (h5.mono λr ys J=>?_);refine(J.keep t (F':=f) (λ_ _ _ _ n=>n) (λ_ n=>n)).keep A (λP _ _ g=>?_) (λ_ n=>.inl n);rintro rfl;obtain⟨c4,g,I⟩:=g;rw[t.get Q id]at g;cases g;exact I _ _ rfl
 have b4:∀P,F' P->P<h.heap.size:=λP m=>by
  rw[c0];rcases m with m|m
  ·exact Qk (n.aF P m) t.size
  ·exact m.2
 have c5:ey h a F' {c3 with heard:=aJ c3.heard e (c3.all e u)}:=
  ⟨⟨p,v,F,_,T,U,b0,M,b2,.inl Y,.inl N,O⟩,.inl n.self,b4,n.Kz,n.tD⟩
 have a2:(an F e).isSome=(an c3.asked e).isSome:=by
  rcases M.an e with⟨B,V⟩|⟨r,b5,B,V,_⟩<;>rw[B,V]<;>rfl
 have c6:∃P:Int,(an F e).getD (WP 0)= WP P:=by
  rcases M.an e with⟨B,V⟩|⟨r,b5,B,V,J⟩
  ·rw[B];exact⟨0,rfl⟩
  ·rw[B];exact⟨b5,J⟩
 obtain⟨k0,c7⟩:=c6;have no:c3.ends e u b3=false->Ok (λr q=>∃F',r= .bool (c3.ends e u b3)/\ey q a F' (c3.Av e u b3)/\cy f b F' q) (.returned (.bool false)) h:=λj=>
  Ok.mk ⟨F',by rw[j],by unfold ku.Av;rw[j];exact c5,a1⟩
 have a3:∀x,c3.ends e u b3=true->bV x p (Value.int .i64) (bM F e)->aj (·=p) h x->x.heap.size=h.heap.size->
   Ok (λr q=>∃F',r= .bool (c3.ends e u b3)/\ey q a F' (c3.Av e u b3)/\cy f b F' q) (.returned (.bool true)) x:=λx j hm C a5=>by
  obtain⟨d1,d2,c8⟩:∃k l,h.heap[p]? =some (.map k l):=by obtain⟨k,l,n,_⟩:=U.at';exact⟨k,l,n⟩
  refine Ok.mk ⟨F',by rw[j],?_,a1.keep.trans C (λ_ _ n=>n) (by rintro P _ rfl;exact Y),a1.new⟩;unfold ku.Av;rw[j];refine⟨⟨p,v,_,_,C.get T b7,hm,b0.keep C (Ne.symm O),M.bM,?_,.inl Y,.inl N,O⟩,.inl n.self,λP m=>by rw[a5];exact b4 P m,n.Kz.bM e,λa0 hq=>n.tD a0 (gR hq)⟩;refine b2.mono λr ys J=>J.keep C (λP _ _ g=>?_) (λ_ n=>n);rintro rfl;obtain⟨c4,g,I⟩:=g;rw[c8]at g;cases g;exact I _ _ rfl
 refine⟨λq=>h=q/\c3.ends e u b3=true,⟨a,0,rfl,some p,ae T rfl,jE mA kI U ?_⟩,?_⟩
 rotate_left
 ·rintro _ _ ⟨rfl,j⟩
  exact⟨a,0,rfl,some p,ae T rfl,Mk mA kI U λx hm C a5=>a3 x j hm C a5⟩
 rw[c7];refine⟨k0,_,rfl,al.mk (λg=>?_) (λg=>al.mk (λh0=>al.mk (λy=>?_) (λy=>?_)) (λh0=>?_))⟩
 ·refine no ?_
  have:(an c3.asked e).isSome=false:=by rw[<-a2];simpa using g
  simp[ku.ends,this]
 ·refine no ?_
  have w:(mU (c3.all e u) b3==0)=false:=by simpa[bne]using h0
  have K:(mU (c3.all e u) b3==2)=false:=by simpa[bne]using y
  simp[ku.ends,HS,w,K]
 ·have j:c3.ends e u b3=true:=by
   have a4:(an c3.asked e).isSome=true:=by rw[<-a2];simpa using g
   have K:(mU (c3.all e u) b3==2)=true:=by simpa[bne]using y
   simp[ku.ends,HS,a4,K]
  exact⟨rfl,j⟩
 ·have j:c3.ends e u b3=true:=by
   have a4:(an c3.asked e).isSome=true:=by rw[<-a2];simpa using g
   have K:(mU (c3.all e u) b3==0)=true:=by simpa[bne]using h0
   simp[ku.ends,HS,a4,K]
  exact⟨rfl,j⟩
def ku.open(n:ku):List Int:=wS (n.asked.map (·.1))
def Nd(i:ey b a f c3)(c:c3.asked.length*8<=aR):
  ba 123 #[LL a] b (Ok (HU b 3 c3.open)):=by
 obtain⟨j,C,p,E,q,r,F,d,H,I,J,K⟩:=i.body;refine qZ ⟨a,0,rfl,some j,ae q rfl,PC.ok (φ:=λs e=>s= .func (.func 250) #[] #[LL b.heap.size]/\ai b e/\e.heap.size=b.heap.size+1/\
  e.heap[b.heap.size]? =some (.cells #[.map (some j)] 148 (0,0))) (jr (PA.mk λt n k g=>Ok.mk ⟨rfl,n,k,g⟩)) ?_⟩
 rintro _ t ⟨rfl,n,k,g⟩;have u:∀P∈p,aM P.1:=by
  intro P v;have:P.1∈c3.asked.map (·.1):=by rw[<-d.keys];exact Xk.2 ⟨P,v,rfl⟩
  obtain⟨w,h,x⟩:=Xk.1 this;rw[<-x];exact i.tD w h
 refine⟨_,rfl,PC.ok (Aw (r.af n) u (by rw[d.length];exact c) g) ?_⟩;rintro _ L ⟨l,m,o,rfl,y,z,A⟩;refine⟨l,m,o,rfl,Ok.mk ⟨l,m,o,rfl,?_,n.af z,λB c=>by have:=A B c;omega⟩⟩;unfold ku.open;rw[<-d.keys];exact y
def Kf(c:ey b a f c3):
  ba 85 #[LL a] b (Ok λt k=>t= .tuple #[]/\ey k a f ⟨c3.di,[],[]⟩/\aj f b k):=by
 obtain⟨e,g,C,E,d,l,m,F,H,o,p,i⟩:=c.body;obtain⟨n,P,q⟩:∃n P,b.heap[g]? =some (.map n P):=by obtain⟨n,P,c,_⟩:=m.at';exact⟨n,P,c⟩
 obtain⟨I,J,r⟩:∃n P,b.heap[e]? =some (.map n P):=by obtain⟨n,P,c,_⟩:=l.at';exact⟨n,P,c⟩
 have u:a≠g:=by rintro rfl;rw[d]at q;cases q
 have s:a≠e:=by rintro rfl;rw[d]at r;cases r
 refine qk ⟨a,0,rfl,some e,ae d rfl,JS mA l λK v h w=>⟨a,0,rfl,some g,ae (h.get d s) rfl,JS mH (m.keep h (Ne.symm i)) λL x j y=>Ok.mk ⟨rfl,
  ⟨⟨e,g,[],[],j.get (h.get d s) u,v.keep j i,x,trivial,trivial,o,p,i⟩,c.self,λz A=>by rw[y,w];exact c.aF z A,by simp[Tidy],sM⟩,?_⟩⟩⟩
 exact h.trans j (by rintro B _ rfl;exact o) (by rintro B _ rfl;exact p)
def gA(b P:Int)(a:List Int×List (Int×Int))(n:Int):List Int×List (Int×Int):=
 if GT .i64 (P-(an a.2 n).getD 0)>=b then(a.1++[n],aJ a.2 n P)else a
def ku.jB(n:ku)(P:Int)(a:Nat):List Int×List (Int×Int):=(n.open.take a).foldl (gA n.di P) ([],n.asked)
def ku.due(P:ku)(n:Int):List Int:=(P.jB n P.open.length).1
def ku.Tg(n:ku)(P:Int):ku:={n with asked:=(n.jB P n.open.length).2}
def ku.Nf(P:ku)(n:Int)(b:P.open[a]? =some e):P.jB n (a+1)=gA P.di n (P.jB n a) e:=by
 unfold ku.jB;rw[Qw,b];simp
def Qf(g:ey b a f c3)(P:c3.asked.length*8<=aR):
  ba 77 #[LL a,WP e] b
   (Ok λJ L=>∃M a4 a5,J= .slice M a4 a5/\Own L 3 1 M a4 a5 (ints (c3.due e))/\ey L a f (c3.Tg e)/\aj f b L/\∀n,aG M=some n->b.heap.size<=n):=by
 refine sQ (PC.ok (Nd g P) ?_);rintro _ N ⟨A,k,lc,rfl,l,s,hn⟩;have b2:∀d∈c3.open,aM d:=by
  intro d B;have:d∈c3.asked.map (·.1):=(List.mergeSort_perm _ _).mem_iff.1 B;obtain⟨t,u,rfl⟩:=Xk.1 this;exact g.tD t u
 have O:k=c3.open.length:=by have:=l.length;rw[jV,Nat.mul_one]at this;exact this.symm
 have b3:c3.open.length=c3.asked.length:=by simp[ku.open,wS]
 have b4:k*8<=aR:=by rw[O,b3];exact P
 have hL:Ints N A k c3.open:=l.ints b4 b2;have b5:pJ f A:=dy.2 λn P Q=>by have:=hn n P;have:=g.aF n Q;omega
 unfold aR at P;have d2:pJ f none:=pJ.none;refine⟨A,k,lc,rfl,λa6 v w R i m=>∃c:Nat,i=c/\c<=k/\a6=k-c/\Own m 3 1 v w R (ints (c3.jB e c).1)/\w<=c/\ey m a f {c3 with asked:=(c3.jB e c).2}/\aj f b m/\Ints m A k c3.open/\N.heap.size<=m.heap.size/\
   (∀n,aG v=some n->N.heap.size<=n),⟨_,0,rfl,Qj _,rfl,Own.nil _ _ _,Qj _,g.af s,s.keep,hL,Q4 _,by simp[aG]⟩,?_⟩
 rintro a6 v w R i _ m ⟨c,rfl,d3,rfl,S,d4,C,T,U,b6,p⟩;refine al.mk (λx=>?_) (λx=>?_)
 ·have x:=XV x
  obtain⟨n,V,d,rfl,d5,B,b7,hc⟩:=U.at (i:=(c:Int)) oM oM;rw[Qx]at B;have a7:=c3.Nf e B;obtain⟨ra,rh,Zb,lh,t1,t2,t3,t4,t5,t6,t7,t8⟩:=C.body;refine⟨n,V,rfl,oM,oM,d,hc,a,0,rfl,some ra,ae t1 rfl,?_⟩;have b8:(an Zb d).getD (WP 0)= WP ((an (c3.jB e c).2 d).getD 0):=by
   rcases t4.an d with⟨W,X⟩|⟨J,d6,W,X,Y⟩
   ·rw[W,X];rfl
   ·rw[W,X];exact Y
  refine⟨(an (c3.jB e c).2 d).getD 0,λb9=>?_,a,0,rfl,c3.di,ae t1 rfl,λw3 hd=>?_⟩
  ·have:=eN mA kI (t2.keep (aj.drewN (S:=λ_=>False) m b9) id) d false
   simpa[b8]using this
  have h:ai m w3:=hd.keep;refine al.mk (λo=>?_) (λo=>?_)
  ·have o:=XV o
   refine PA.mk λw4 q s4 g4=>?_;refine Ns VX ((S.af h).af q) g4 (by unfold aR at*;omega) λa' c' w5 a8 E K=>?_;refine⟨a',w+1,c',rfl,a,0,rfl,?_⟩;have c0:∀n,f n->¬(some n=aG v):=λn Q Z=>by have:=p n Z.symm;have:=g.aF n Q;have:=s.size;omega
   have y:ey w5 a f {c3 with asked:=(c3.jB e c).2}:=((C.af h).af q).keep E c0;obtain⟨j,a0,a9,a1,a2,b0,c1,c2,c4,a3,c5,b1⟩:=y.body;refine⟨some j,ae a2 rfl,dB mA kI b0 λw6 c6 r c7=>?_⟩;obtain⟨F,H,I⟩:∃F H,w5.heap[j]? =some (.map F H):=by obtain⟨F,H,g,_⟩:=b0.at';exact⟨F,H,g⟩
   have c8:a≠j:=by rintro rfl;rw[a2]at I;cases I
   have c9:ey w6 a f {c3 with asked:=aJ (c3.jB e c).2 d e}:=by
    refine⟨⟨j,a0,_,a1,r.get a2 c8,c6,c1.keep r (Ne.symm b1),fH.aJ (R:=isI) rfl c2,?_,a3,c5,b1⟩,y.self,λn P=>by rw[c7];exact y.aF n P,y.Kz.aJ _ _,?_⟩
    ·refine c4.mono λJ ys Y=>Y.keep r (λt _ _ l=>?_) (λ_ g=>g)
     rintro rfl;obtain⟨d7,l,d0⟩:=l;rw[I]at l;cases l;exact d0 _ _ rfl
    ·intro t u
     rcases fE u with rfl|u
     ·exact b7
     ·exact y.tD t u
   have z:c3.jB e (c+1)=((c3.jB e c).1++[d],aJ (c3.jB e c).2 d e):=by rw[a7];unfold gA;rw[Zx o]
   have d1:∀n,aG a'=some n->n≠j:=λn P=>by
    rintro rfl;exact a8.Wa I P
   refine⟨_,?_,c+1,?_,oM,rfl,?_,oM,by rw[z];exact c9,?_,?_,?_,?_⟩
   ·omega
   ·rw[wrap_i64 (by unfold aM;omega)];simp
   ·rw[z];exact a8.keep r (dy.2 d1)
   ·refine(((T.af h).af q).new E ?_).trans r (λ_ _ g=>g) (by rintro t _ rfl;exact a3)
    intro n P;right;have:=p n P.symm;have:=s.size;omega
   ·refine(((U.af h).af q).keep E (dy.2 λn P Z=>?_)).keep r (dy.2 λn P=>?_)
    ·have:=p n Z.symm;have:=l.lt P;omega
    ·rintro rfl;exact dy.1 b5 n P a3
   ·have:=h.size;have:=q.size;have:=E.size;omega
   ·intro n P
    rcases K with K|K
    ·exact p n (K▸P)
    ·rw[K]at P;cases P;have:=h.size;have:=q.size;omega
  ·have o:=Xy o
   have z:c3.jB e (c+1)=c3.jB e c:=by rw[a7];unfold gA;rw[Zq o]
   refine⟨_,?_,c+1,?_,oM,rfl,by rw[z];exact S.af h,oM,by rw[z];exact C.af h,T.af h,U.af h,Xx b6 h.size,p⟩
   ·omega
   ·rw[wrap_i64 (by unfold aM;omega)];simp
 ·have x:=Xy x
  obtain rfl:c=k:=oM
  refine Ok.mk ⟨v,w,R,rfl,?_,?_,T,λn P=>Xx s.size (p n P)⟩
  ·unfold ku.due;rw[<-O];exact S
  ·unfold ku.Tg;rw[<-O];exact C
structure bN where
 aC:Int
 uR:Int
 bj:Int
 chunk:Int
 buffer:Int
 di:Int
 every:Int
 start:Int
 decl:aT
structure bg where
 S:aw
 D:ak
 log:Option dv
 waits:List ah
 gG:ku
def fF(n:bN)(P:Int):Bool:=
 within n.aC 1 64&&within P 0 (n.aC-1)&&within n.uR 64 262144&&decide (n.bj>=1)&&decide (n.every>=1)&&within n.chunk 1 32&&within n.buffer 1 256&&within n.di 1 1048576&&decide (n.start>=0)
section
variable (c:bN) (self:Int)
def fC(P:bg):Int×bg:=
 let n:=aS P.D c.bj
 if n.no≠0 then(n.no,{P with D:=n.D,log:=none,S:=⟨c.aC.toNat,[]⟩})
 else(0,{P with D:=n.D,log:=some n.V,S:=(⟨c.aC.toNat,[]⟩:aw).eC n.out})
def Cr:Int×bg:=fC c ⟨⟨c.aC.toNat,[]⟩,gU c.uR.toNat,none,[],⟨c.di,[],[]⟩⟩
def eY(n:aw)(P:List ah):aw:=(⟨c.aC.toNat,[]⟩:aw).eC (n.l++P)
def df(P:bg)(b:List ah):Int×bg:=match P.log with
 |none=>(15,P)
 |some d=>
  let n:=aE d P.D b
  if n.1≠0 then(n.1,{P with log:=some n.2.1,D:=n.2.2})else
  let a:=n.2.2.sync n.2.1.last
  if a.1≠0 then(a.1,{P with log:=some n.2.1,D:=a.2})else
  (0,{P with log:=some n.2.1,D:=a.2,S:=eY c P.S b})
def eP(n:bg)(b:lE):Int×(Int×Int)×bg:=match n.log with
 |none=>(15,(0,0),n)
 |some _=>
  let P:=gD c.decl n.S (bZ c.decl n.S.l) self c.start b
  if P.2.2≠0 then(P.2.2,(0,0),n)else
  if P.2.1 then(let a:=df c n [P.1];if a.1≠0 then(a.1,(0,0),a.2)else(0,bd P.1,a.2))
  else(0,bd P.1,n)
def fk(P:bg)(n a:Int):List bW×bg:=
 if n<0\/n>=c.aC\/n=self then([],P)else([lk P.S self n],{P with gG:={P.gG with asked:=aJ P.gG.asked n a}})
def pK(a:bg)(n:Int):List bW×bg:=((a.gG.due n).map λP=>lk a.S self P,{a with gG:=a.gG.Tg n})
def gT(n:Nat):List ah->aw->List ah->List ah->aw×List ah×List ah
 |[],a,P,b=>(a,P,b)
 |e::c,a,P,b=>
  if(a.add e).1=0 then gT n c (a.add e).2 (P++[e]) b
  else if(a.add e).1=16 then gT n c a P b
  else gT n c a P (eT n b e).2
def eE:List ah->aw->List ah->aw×List ah
 |[],P,n=>(P,n)
 |e::a,P,n=>if(P.add e).1=0 then eE a (P.add e).2 (n++[e])else eE a (P.add e).2 n
def pM:Nat->aw->List ah->List ah->List ah×List ah
 |0,a,n,b=>(n,b)
 |k+1,a,n,b=>
  let P:=bG a b
  if P.1=[]then(n,P.2)else
  let c:=eE P.1 a n
  pM k c.1 c.2 P.2
def gI(P:bg)(a:List ah):List ah×List ah:=
 let n:=gT c.buffer.toNat a (eY c P.S []) [] P.waits
 pM (n.2.2.length+1) n.1 n.2.1 n.2.2
def lD(n:bg)(a:bW):List bW×Int×bg:=
 let b:=gI c n a.events
 let n:={n with waits:=b.2}
 if b.1=[]then([Au n.S self a.bO],0,n)else
 let P:=df c n b.1
 if P.1≠0 then([],P.1,{P.2 with waits:=[]})else([Au P.2.S self a.bO],0,P.2)
def ck(n:bg)(P:bW):List bW×Int×bg:=match n.log with
 |none=>([],15,n)
 |some _=>
  let no:=ei P c.aC.toNat c.chunk
  if no≠0 then([],no,n)else
  if P.mQ≠self then([],1,n)else
  if P.kind=3 then lD c self n P else
  let n:={n with gG:=n.gG.Av P.bO P.vec n.S.vec}
  if P.kind≠4 then(my n.S self P c.chunk,0,n)else
  let a:=n.S.missing P.vec c.chunk
  if a=[]then([],0,n)else([⟨3,self,P.bO,[],a⟩],0,n)
def g_(P:bg)(n:Int):Int×bg:=fC c {P with D:=du (P.D.eu n),waits:=[],gG:=⟨P.gG.di,[],[]⟩}
def de(n:bg):Int×bg:=match n.log with
 |none=>(15,n)
 |some a=>
  let P:=aQ a n.D n.S.l c.bj
  if P.no≠0 then(P.no,{n with D:=P.D})else(0,{n with D:=P.D,log:=some P.V})
end
def BN:gE:=⟨[],[(3,[]),(7,[(9,.slice none 0 0)]),(11,[(9,.slice none 0 0)])],[],[],[]⟩
def BO{w x D y:Nat}(R:PA b (.cells #[.ii l,.ii B,.ii T,.slice s w x,.slice d4 D y] 127) λP=>(∃j:ac,((rI P (ab_ b 0) λS=>al (S !=1) ((rI P (ab_ b 0) λU=>al (U !=2) (rt t ((.slice none 0 0)) P) (j P))) (j P)))/\∀(d8:Nat->Value) (k:World),j k->(∃m:am->Nat->Nat->ac,((rS k (ab_ b (0+3)) λV W X=>PC_ 122 #[.pointer d,.slice V W X,.ii (if(if 32<b1 then 32 else b1)>1 then(if 32<b1 then 32 else b1)else 1)] k (kS_ λY z Z o=>al (decide ((z:Int)>0)) (PA o (.cells #[.ii 3,.ii 0,.ii 0,.slice none 0 0,.slice Y z Z] 127) λa3=>PR_ (ap_ 69 (.slice none 0 0) (.slice (some (ab_ o 0)) 1 1)) a3 (kS_ λa4 a5 a6 a7=>m a4 a5 a6 a7) (pV t)) (m none 0 0 o)) (pE t)))/\∀(a:am) (c:Nat) (f:Nat) (d9:Nat->Value) (G:World),m a c f G->PC_ 58 #[.pointer d] G (kS_ λp q r A=>(∃g:am->Nat->Nat->ac,((rS A (ab_ b (0+3)) λa8 a9 b0=>PC_ 193 #[.slice a8 a9 b0,.slice p q r] A (kI_ λC n=>(rI n (ab_ b 0) λa0=>al (a0==1) (al (C==2) (PA n (.cells #[.ii 2,.ii 0,.ii 0,.slice p q r,.slice none 0 0] 127) λb2=>PR_ (ap_ 69 (.slice a c f) (.slice (some (ab_ n 0)) 1 1)) b2 (kS_ λb3 b4 b5 b6=>g b3 b4 b5 b6) (pV t)) (al (C==3) (PA n (.cells #[.ii 2,.ii 0,.ii 0,.slice p q r,.slice none 0 0] 127) λb7=>PR_ (ap_ 69 (.slice a c f) (.slice (some (ab_ n 0)) 1 1)) b7 (kS_ λb8 b9 c0 c1=>g b8 b9 c0 c1) (pV t)) (g a c f n))) (g a c f n))) (pE t)))/\∀(u:am) (i:Nat) (v:Nat) (e0:Nat->Value) (h:World),g u i v h->al ((i:Int)==0) ((rI h (ab_ b (0+1)) λc2=>PC_ 191 #[.pointer d,.ii e,.ii c2] h (λc3 E=>∃F H I J K L M N O,c3= .agg #[.ii F,.ii H,.ii I,.slice J K L,.slice M N O]/\PA E (.cells #[.ii F,.ii H,.ii I,.slice J K L,.slice M N O] 127) λc4=>PR_ (ap_ 69 (.slice u i v) (.slice (some (ab_ E 0)) 1 1)) c4 (kS_ λc5 c6 c7 Q=>(rI Q (ab_ b (0+1)) λc8=>PC_ 194 #[.ii e,.ii c8,.slice c5 c6 c7] Q (kS_ λc9 d0 d1 d2=>rt t ((.slice c9 d0 d1)) d2) (pE t))) (pV t)) (pE t))) ((rI h (ab_ b (0+1)) λd3=>PC_ 194 #[.ii e,.ii d3,.slice u i v] h (kS_ λa1 d5 d6 d7=>rt t ((.slice a1 d5 d6)) d7) (pE t))))) (pE t)))):ba 121 #[.pointer d,.ii e,.agg #[.ii l,.ii B,.ii T,.slice s w x,.slice d4 D y],.ii b1] b t:=DC BN Tryz.func121 rfl R
def LX:gE:=⟨[(2,[(10,WP 0)])],[],[],[],[]⟩
def LY(i:(∃f:Nat->Int->ac,(∃P,f P 0 b)/\∀(P:Nat) (n:Int) (r:Nat->Value) (g:World),f P n g->al (decide (n<(a:Int))) ((ix_ d n a λj k=>PS g (ad j (k+Int.toNat n*5+1)) (.ii e) λm=>(ix_ d n a λo p=>PS m (ad o (p+Int.toNat n*5+2)) (.ii l) λq=>(∃h,h<P/\f h (GT .i64 (n+1)) q)))) (rt t ((.slice d a c)) g))):ba 194 #[.ii e,.ii l,.slice d a c] b t:=DC LX Tryz.func194 rfl i
structure KM where
 m:bW
 va:am
 vn:Nat
 vc:Nat
 ea:am
 en:Nat
 ec:Nat
def Pq:ks KM:=flat 5 (λn=>eh n.m n.va n.vn n.vc n.ea n.en n.ec) (λ_=>True) (λ_=>rfl) (λa b P=>by
 simp only[eh,Q2,List.not_mem_nil,or_false]at P;rcases P with rfl|rfl|rfl|rfl|rfl<;>rfl)
def KM.In(P:World)(D:RK)(n:KM):Prop:=Row aP 8 P D n.va n.vn n.m.vec/\Row kY 96 P D n.ea n.en n.m.events
def EY:kv PP 69 127 Pq.k 72:=⟨kR,kR,dC⟩
def bq(b:World)(f:List bW)(g:Value)(a:World):Prop:=
 ∃(P:am) (d e:Nat) (c:List KM) (D:RK),g= .slice P d e/\aU Pq 127 (λn=>aG P=some n) a P d e c/\c.map (·.m)=f/\(∀n∈c,n.In a D)/\(∀n,D n->b.heap.size<=n/\n<a.heap.size/\aG P≠some n)/\(∀n,aG P=some n->b.heap.size<=n)/\ai b a
section
variable {w w':World} {p:Nat} {F D:RK} {S:aw} {a:am} {n c:Nat}
def KM.In.keep{n:KM}(P:n.In w D)(a:aj f w w')(b:∀n,D n->¬f n):n.In w' D:=⟨P.1.keep a b,P.2.keep a b⟩
def KM.In.mono{n:KM}(P:n.In w D)(a:∀n,D n->f n):n.In w f:=⟨P.1.mono a,P.2.mono a⟩
def dA{n:ks j}{bytes:Nat}(w:World)(D:RK):Row n bytes w D none 0 []:=⟨rfl,sM,λa b P=>by simp at P⟩
def bq.nil(w:World):bq w [] (.slice none 0 0) w:=⟨none,0,0,[],λ_=>False,rfl,(aU.nil w).mono (λP n=>n.elim) (λP n=>(by cases n)),rfl,sM,λP n=>n.elim,λP n=>(by cases n),aj.refl _⟩
def bq.af(f:bq b a8 x w)(e:ai w w'):bq b a8 x w':=by
 obtain⟨a,n,c,h,D,i,j,k,l,g,m,o⟩:=f;exact⟨a,n,c,h,D,i,j.af e,k,λP d=>(l P d).keep e λ_ _ f=>f,λP d=>⟨(g P d).1,by have:=e.size;have:=(g P d).2.1;omega,(g P d).2.2⟩,m,o.then e⟩
def bq.push(u:bq b a8 (.slice a n c) w)(L:kv h g 127 Pq.k 72){m:bW}{j k l o z:Nat}{M:Nat×Nat}{E:RK}(N:(⟨m,d,j,k,s,l,o⟩:KM).In w E)(A:∀P,E P->b.heap.size<=P/\P<w.heap.size/\aG a≠some P)(O:w.heap[z]? =some (.cells (eh m d j k s l o).toArray 127 M))(V:a8.length<=1000)(x:∀f i w',bq b (a8++[m]) (.slice f (n+1) i) w'->aj (λP=>aG a=some P) w w'->q (.slice f (n+1) i) w'):
  aK h (Builtin.append_ #[g,g] r #[.slice a n c,.slice (L1 z) 1 1]) w q v:=by
 obtain⟨W,X,Y,y,D,Q,R,B,S,C,F,H⟩:=u
 cases Q
 have Z:y.length=a8.length:=by rw[<-B,Q8]
 refine fJ (c:=Pq) (x:=⟨m,d,j,k,s,l,o⟩) (D:=λ_=>False) R L O ⟨rfl,trivial⟩ (λP e=>e.elim) (by unfold aR;omega) (by unfold maxLen;omega) λf i w' F' p t T=>?_;have I:∀P,aG f=some P->aG a=some P\/w.heap.size<=P:=λP e=>(T P (p.self P e)).imp id λu=>u.resolve_left id;have a0:=t.size;have z7:=H.size;refine x f i w' ⟨f,n+1,i,y++[⟨m,d,j,k,s,l,o⟩],λP=>D P\/E P,rfl,(show aU Pq 127 (λP=>aG f=some P) w' f (n+1) i (y++[⟨m,d,j,k,s,l,o⟩])from p.alone),by rw[Q3,B];rfl,λP e=>?_,λP e=>?_,λP e=>?_,H.new t λP e=>.inr (F P e)⟩ t
 ·rcases Q6.1 e with e|e
  ·exact((S P e).keep t λP e=>(C P e).2.2).mono λP e=>.inl e
  ·simp at e;subst e
   exact(N.keep t λP e=>(A P e).2.2).mono λP e=>.inr e
 ·have J:b.heap.size<=P/\P<w.heap.size/\aG a≠some P:=e.elim (C P) (A P)
  exact⟨J.1,oM,λU=>(I P U).elim J.2.2 oM⟩
 ·rcases I P e with K|K
  ·exact F P K
  ·omega
def Oo(z:bq b a8 (.slice a n c) w)(O:a8.length<=1000):
  ba 194 #[WP e,WP l,.slice a n c] w (Ok λA w'=>bq b (a8.map λo=>{o with bO:=e,mQ:=l}) A w'):=by
 obtain⟨Q,R,S,d,D,B,s,x,C,p,y,E⟩:=z
 cases B
 have T:d.length=a8.length:=by rw[<-x,Q8]
 have U:=s.len dC;obtain⟨g,j⟩:∃g:KM->KM,g=λf=>{f with m:={f.m with bO:=e,mQ:=l}}:=⟨_,rfl⟩
 refine LY ⟨λo h w'=>∃P:Nat,h=P/\P<=n/\o=n-P/\aU Pq 127 (λf=>aG a=some f) w' a n c ((d.take P).map g++d.drop P)/\aj (λf=>aG a=some f) w w',⟨_,0,rfl,Qj _,rfl,by simpa using s,aj.refl _⟩,?_⟩;rintro o _ _ V ⟨P,rfl,W,rfl,t,q⟩;refine al.dec (λX=>?_) (λY=>?_)
 ·have r:d[P]? =some d[P]:=Qq oM
  have k:∃m,a=L1 m:=by
   obtain⟨cs,D,F,-⟩:=s.body;rcases F.cases with⟨_,Z,_,_⟩|⟨m,H,rfl,_⟩
   ·omega
   ·exact⟨m,rfl⟩
  obtain⟨m,k⟩:=k;have u:((d.take P).map g++d.drop P)[P]? =some d[P]:=by
   rw[X8 (by simp;omega)];simp[Qy,X2 (show P<=d.length by omega)]
  generalize d[P]=h at r u;have I:P<((d.take P).map g++d.drop P).length:=(Qv.1 u).1;refine⟨m,0,k,oM,oM,?_⟩;rw[Qx];refine aU.set (x':={h with m:={h.m with bO:=e}}) (j:=1) t u dC rfl k λa3 J K a4=>⟨m,0,k,oM,oM,?_⟩
  refine aU.set (x:={h with m:={h.m with bO:=e}}) (x':=g h) (j:=2) J (by rw[List.getElem?_set_self I]) dC (by rw[j];rfl) k λa5 v L a6=>⟨_,?_,P+1,aq oM,oM,rfl,?_,(q.then K).then L⟩
  ·omega
  ·rw[List.set_set]at v
   have M:((d.take P).map g++d.drop P).set P (g h)=(d.take (P+1)).map g++d.drop (P+1):=by
    have N:((d.take P).map g).length=P:=by simp;omega
    rw[Qw,r,Q3,XQ,List.set_append,Zq oM,N,Nat.sub_self,X4 (show P<d.length by omega)];rfl
   rw[M]at v;exact v
 ·obtain rfl:P=n:=oM
  rw[Qz oM,List.drop_eq_nil_of_le oM,List.append_nil]at t;refine Ok.mk ⟨a,P,c,d.map g,D,rfl,t,?_,λf i=>?_,λf i=>⟨(p f i).1,by have:=q.size;have:=(p f i).2.1;omega,(p f i).2.2⟩,y,E.new q λf i=>.inr (y f i)⟩
  ·rw[<-x,List.map_map,List.map_map,j];rfl
  ·obtain⟨h,r,rfl⟩:=Xk.1 i
   have:=(C h r).keep q λf i=>(p f i).2.2;rw[j];exact this
end
section
variable {w w':World} {p:Nat} {F D E:RK} {S:aw} {m:bW} {va ea:am} {vn vc en ec:Nat}
def bq.Il(d:bq b a8 x w)(a:ai w' b):bq w' a8 x w:=by
 obtain⟨e,f,g,h,D,i,j,k,l,c,m,o⟩:=d;have:=a.size;exact⟨e,f,g,h,D,i,j,k,l,λn P=>⟨by have:=(c n P).1;omega,(c n P).2⟩,λn P=>by have:=m n P;omega,a.then o⟩
def bq.len(n:bq b a8 (.slice d a c) w):a=a8.length:=by
 obtain⟨g,h,i,j,D,P,e,f,-⟩:=n
 cases P
 rw[e.len dC,<-f,Q8]
def bq.sl(n:bq b a8 x w):∃P a c,x= .slice P a c:=by
 obtain⟨e,f,g,h,D,d,-⟩:=n;exact⟨_,_,_,d⟩
def Ke(h:cM w p F S)(hl:S.l.length<=20000000)(Z:Row aP 8 w D va vn m.vec):
  ba 121 #[LL p,WP e,iQ m va vn vc ea en ec,WP l] w (Ok (bq w (my S e m l))):=by
 have hS:=h.1;have hN:=hS.n;refine BO (PA.mk λa o g0 x=>⟨λw'=>a=w'/\(m.kind=1\/m.kind=2),⟨_,ae x rfl,al.eK (λq=>⟨_,ae x rfl,al.eK (λc=>Ok.mk ?_) (λc=>⟨rfl,.inr c⟩)⟩) (λq=>⟨rfl,.inl q⟩)⟩,?_⟩)
 ·unfold my;rw[Zx ⟨q,c⟩];exact(bq.nil a).Il o
 rintro _ _ ⟨rfl,hk⟩;have b9:¬(m.kind≠1/\m.kind≠2):=oM
 obtain⟨s,K⟩:∃s,s=S.missing m.vec (max 1 (min l 32)):=⟨_,rfl⟩
 have b4:(if(if 32<l then 32 else l)>1 then(if 32<l then 32 else l)else 1)=max 1 (min l 32):=by split<;>split<;>omega
 obtain⟨d,E⟩:∃d:List bW,d=if 0<s.length then [⟨3,0,0,[],s⟩]else []:=⟨_,rfl⟩
 have g1:d.length<=1:=by rw[E];split<;>simp
 refine⟨λg i j w'=>bq a d (.slice g i j) w'/\ai a w',⟨_,_,_,ae x rfl,?_⟩,?_⟩
 ·rw[b4]
  refine PC.ok (zo (h.af o) hl (Z.af o)) ?_;rw[<-K];rintro _ g2 ⟨b7,n2,y,G,rfl,L,H,hG⟩;have g3:=L.len dC;have e1:=L.aF;refine⟨_,_,_,rfl,al.dec (λf6=>PA.mk λg4 M g5 e2=>?_) (λhz=>⟨?_,H⟩)⟩
  rotate_left
  ·rw[E,Zq oM]
   exact(bq.nil a).af H
  have g6:s.length<=20000000:=by
   rw[K];unfold aw.missing;rw[Qy];have:=List.length_filter_le (λf:ah=>decide (max 0 (fU m.vec f.origin)<f.seq)) S.l;omega
  refine bq.push (m:=⟨3,0,0,[],s⟩) (E:=G) ((bq.nil a).af (H.then M)) EY ⟨dA _ _,(L.af M).row dC (by unfold aR;omega)⟩ (λn P=>⟨by have:=hG n P;omega,by have:=e1 n P;omega,λf=>by cases f⟩) e2 sM λa' c' g7 c4 e3=>⟨_,_,_,rfl,?_,?_⟩
  ·rw[E,Zx oM];exact c4
  ·exact(H.then M).new e3 λn P=>(by cases P)
 rintro I on oc _ e4 ⟨N,O⟩;have a0:=o.then O;have e5:=O.size;refine PC.ok (mu (h.af a0)) ?_;rintro _ u ⟨a3,n3,c3,G3,rfl,c6,c7,c8⟩;have g8:=a0.size;have c9:=c6.aF;have d0:Row aP 8 u G3 a3 n3 S.vec:=c6.row dC (by rw[S.bU];unfold aR;omega);obtain⟨b,v⟩:∃b:List bW,b=if m.kind=1/\(mU m.vec S.vec=2\/mU m.vec S.vec=3)then [⟨2,0,0,S.vec,[]⟩]else []:=⟨_,rfl⟩
 have g9:b.length<=1:=by rw[v];split<;>simp
 have z:=O.then c7;have Q:∀n,aG I=some n->n<e4.heap.size:=λn P=>by
  obtain⟨a1,n1,t,a2,D,k,c,-⟩:=N
  cases k
  exact c.aF n P
 refine⟨_,_,_,rfl,λg i j w'=>bq a (d++b) (.slice g i j) w'/\w'.heap[w.heap.size]? =some (.cells (eh m va vn vc ea en ec).toArray 127 (0,0))/\ai a w',⟨_,_,_,ae (z.get x id) rfl,PC.ok (Om ((Z.af (o.then z)).uc) d0.uc) ?_⟩,?_⟩
 ·rintro _ _ ⟨rfl,rfl⟩
  have R:=z.get x id;have a4:=N.af c7;have r:∀n,aG I=some n->a.heap.size<=n:=λn P=>by
   obtain⟨a1,n1,t,a2,D,k,c,A,h4,h5,T,h7⟩:=N
   cases k
   exact T n P
  have no:b=[]->bq a (d++b) (.slice I on oc) u/\u.heap[w.heap.size]? =some (.cells (eh m va vn vc ea en ec).toArray 127 (0,0))/\ai a u:=λP=>⟨by rw[P,List.append_nil];exact a4,R,z⟩
  have B:∀{ε:UX} {U:am->Nat->Nat->ac},b=[⟨2,0,0,S.vec,[]⟩]->(∀g i j w',bq a (d++b) (.slice g i j) w'/\w'.heap[w.heap.size]? =some (.cells (eh m va vn vc ea en ec).toArray 127 (0,0))/\ai a w'->U g i j w')->
    PA u (.cells #[WP 2,WP 0,WP 0,.slice a3 n3 c3,.slice none 0 0] 127) λd1=>aK PP (Builtin.append_ #[69,69] 69 #[.slice I on oc,.slice (L1 u.heap.size) 1 1]) d1 (λe6 d2=>∃(a5:am) (a6:Nat) (a7:Nat),e6= .slice a5 a6 a7/\U a5 a6 a7 d2) ε:=λ{ε U} P V=>by
   refine PA.mk λd1 J h8 e7=>bq.push (m:=⟨2,0,0,S.vec,[]⟩) (E:=G3) (a4.af J) EY ⟨d0.af J,dA _ _⟩ (λn P=>⟨by have:=c8 n P;omega,by have:=c9 n P;omega,λf=>by have:=Q n f;have:=c8 n P;omega⟩) e7 oM λa' c' d2 d3 d4=>⟨_,_,_,rfl,V _ _ _ _ ⟨by rw[P];exact d3,d4.get (J.get R id) λf=>?_,?_⟩⟩
   ·have:=r _ f;omega
   ·exact(z.then J).new d4 λn P=>.inr (r n P)
  refine⟨_,rfl,_,ae R rfl,al.eH (λq=>al.eH (λc=>B (by rw[v,Zx ⟨q,.inl c⟩]) λg i j w' h=>h) (λc=>al.eH (λA=>B (by rw[v,Zx ⟨q,.inr A⟩]) λg i j w' h=>h) (λA=>no (by rw[v,Zq];rintro⟨-,h|h⟩;exact c h;exact A h)))) (λq=>no (by rw[v,Zq λh=>q h.1]))⟩
 rintro e8 h9 i0 _ e9 ⟨C,W,a8⟩;have d5:=o.then a8;have f2:=a8.size;have a9:=C.len;have f8:(d++b).length<=2:=by rw[QX];omega
 have b0:∀{X:List bW},(if(d++b).isEmpty then [Au S e m.bO]else(d++b).map λb5=>{b5 with bO:=e,mQ:=m.bO})=X->my S e m l=X:=λ{X} hq=>by
  rw[<-hq];unfold my;rw[Zq b9,<-K];rw[E,v];have p1:(decide (mU m.vec S.vec=2\/mU m.vec S.vec=3))=decide (mU m.vec S.vec=2\/mU m.vec S.vec=3):=rfl
  by_cases t:0<s.length<;>by_cases y:m.kind=1/\(mU m.vec S.vec=2\/mU m.vec S.vec=3)
  ·simp[t,y]
  ·simp[t,y]
  ·simp[t,y]
  ·simp[t,y]
 refine al.eH (λh0=>⟨_,ae W rfl,PC.ok (JU (h.af d5)) ?_⟩) (λh0=>⟨_,ae W rfl,PC.ok (Oo C oM) ?_⟩)
 ·have k:d++b=[]:=QW oM
  rintro _ i1 ⟨b8,n5,c5,G5,rfl,d6,d7,d8⟩;have d9:=d6.aF;rw[k]at C;refine⟨_,_,_,_,_,_,_,_,_,rfl,PA.mk λi2 Y i3 f4=>?_⟩;have b1:∀n,aG e8=some n->a.heap.size<=n/\n<e9.heap.size:=λn P=>by
   obtain⟨a1,n1,t,a2,D,k,c,A,h4,h5,T,h7⟩:=C
   cases k
   exact⟨T n P,c.aF n P⟩
  refine bq.push (m:=Au S e m.bO) (E:=G5) (C.af (d8.then Y)) EY ⟨(d6.af Y).row dC (by show S.vec.length*8<=aR;rw[S.bU];unfold aR;omega),dA _ _⟩ (λn P=>⟨by have:=d7 n P;have:=d5.size;omega,by have:=d9 n P;omega,λf=>by have:=(b1 n f).2;have:=d7 n P;omega⟩) f4 sM λa' c' i4 e0 f5=>⟨_,_,_,rfl,_,ae (f5.get ((d8.then Y).get W id) λf=>by have:=(b1 _ f).1;omega) rfl,?_⟩
  refine PC.ok (Oo e0 sM) ?_;rintro b6 i5 b2;obtain⟨g,i,j,rfl⟩:=b2.sl;refine⟨_,_,_,rfl,Ok.mk ?_⟩;rw[b0 (Zx (by rw[k];rfl))];exact b2.Il o
 ·rintro b6 i6 b3
  obtain⟨g,i,j,rfl⟩:=b3.sl;refine⟨_,_,_,rfl,Ok.mk ?_⟩;rw[b0 (Zq (by
   intro k;have:d++b=[]:=by simpa using k
   rw[this]at a9;simp at a9;omega))]
  exact b3.Il o
end
def uM:gE:=⟨[],[],[],[],[]⟩
def uN(n:(rS b (ad a c) λP d e=>(rS b (ad i (o+1)) λf g h=>(rI b (ad E (c1+2)) λj=>(rI b (ad E (c1+3)) λk=>(rI b (ad E (c1+4)) λl=>PC_ 131 #[.agg #[.slice P d e],.slice f g h,.ii j,.ii k,.ii l] b (kI_ λm p=>rt t ((.ii m)) p) (pE t))))))):ba 130 #[.pointer (some ⟨a,c,none⟩),.pointer (some ⟨i,o,none⟩),.pointer (some ⟨E,c1,none⟩)] b t:=DC uM Tryz.func130 rfl n
def xV:gE:=⟨[(13,[(68,WP 0)])],[(11,[]),(20,[(25,.pointer (some ⟨0,0,none⟩)),(26,WP 0)])],[19],[],[(19,⟨[0,0,0,4,0,24,0,96,171,256,512,512,0,6143,16383],[32767,32767,32767,32763,32767,32751,32767,32671,32628,32511,32255,32255,32767,27647,30719],[1,0,0,2,0,2,0,0,2,0,0,0,2,2,0]⟩)]⟩
def xW{W X h Y:am}{p d Z a2 a3 a4 a5 a6 a7:Int}(a0:PA b (.cells #[.slice W a c,.slice X i o] 25) λP=>PA P (.cells #[.ii Z,.ii a2,.ii a3,.ii a4,.ii a5,.ii a6,.ii a7] 38) λe=>PA e (.cells #[.ii 0,.ii 0,.ii 0,.slice none 0 0,.ii 0,.ii 0,.ii 0,.ii 0,.ii 0,.ii 0] 63) λs=>(∃a8 a9 b0 b1 b2 b3,s.cell? (ab_ b 0)=some (.slice a8 a9 b0)/\s.cell? (ab_ b (0+1))=some (.slice b1 b2 b3)/\(Ld 38 (ab_ P 0) s λf2=>PC_ 125 #[.agg #[.slice a8 a9 b0,.slice b1 b2 b3],f2] s (kI_ λb4 y=>al (b4 !=0) (St 63 (ab_ e 0) (.agg #[.ii 0,.ii 0,.ii 0,.slice none 0 0,.ii 0,.ii 0,.ii 0,.ii 0,.ii 0,.ii 0]) y λb5=>(Ld 63 (ab_ e 0) b5 λf3=>rt t ((.tuple #[f3,.bool false,.ii b4])) b5)) ((rI y (ab_ P (0+6)) λf4=>PC_ 126 #[.pointer h,.ii f4] y (λf5 z=>sK (dz PP 63) λb6=>∃b7,f5= .tuple #[b6,.bool b7]/\PA z (.cells #[.ii 0,.ii 0,.ii 0,.slice none 0 0,.ii 0,.ii 0,.ii 0,.ii 0,.ii 0,.ii 0] 63) λf6=>St 63 (ab_ z 0) b6 f6 λf=>al b7 ((Ld 63 (ab_ z 0) f λf7=>St 63 (ab_ e 0) f7 f λb8=>(Ld 63 (ab_ e 0) b8 λf8=>rt t ((.tuple #[f8,.bool false,.ii 0])) b8))) ((rS f (ab_ b 0) λf9 g0 j1=>(rI f (ab_ P 0) λb9=>(ix_ f9 b9 g0 λg1 g2=>(rS f (ad g1 (g2+Int.toNat b9)) λg3 g4 g5=>PA f (.cells #[.slice none 0 0] 118) λg6=>PS g6 (ab_ f 0) (.slice g3 g4 g5) λA=>(rI A (ab_ P 0) λg7=>(rI A (ab_ P (0+1)) λg8=>PC_ 127 #[.pointer Y,.ii g7,.ii g8] A (λg9 l=>∃c0 c1 c2 c3 c4,g9= .tuple #[.agg #[.ii c0,.slice c1 c2 c3],.bool c4]/\PA l (.cells #[.ii 0,.slice none 0 0] 49) λh0=>PS h0 (ab_ l 0) (.ii c0) λh1=>PS h1 (ab_ l (0+1)) (.slice c1 c2 c3) λB=>(∃C:ac,(al (!c4) ((rS B (ab_ f 0) λh2 h3 h4=>PC_ 128 #[.agg #[.slice h2 h3 h4]] B (kS_ λh5 h6 h7 h8=>PS h8 (ab_ l (0+1)) (.slice h5 h6 h7) λh9=>C h9) (pE t))) (C B))/\∀(j2:Nat->Value) (E:World),C E->PA E (.cells #[.func (.func 129) #[] #[.pointer (some (ab_ P 0)),.pointer (some (ab_ l 0))],.func (.func 130) #[] #[.pointer (some (ab_ f 0)),.pointer (some (ab_ l 0)),.pointer (some (ab_ P 0))]] 106) λi0=>(∃F:Nat->Int->ac,(∃u,F u 0 i0)/\∀(u:Nat) (m:Int) (j3:Nat->Value) (v:World),F u m v->al (decide (m<(2:Int))) ((∃c5 c6,((some (ab_ E 0)):am)=some ⟨c5,c6,none⟩/\(0:Int)<=m/\m<(2:Int)/\(∃(c7:Value),v.cell? (ad c5 (c6+Int.toNat m))=some c7/\(∃H c8 d0,(c7:Value)= .func (.func H) c8 d0/\enters PP H=true/\PC_ H (c8++ #[]++d0) v (kI_ λd1 d2=>al (d1 !=0) (St 63 (ab_ e 0) (.agg #[.ii 0,.ii 0,.ii 0,.slice none 0 0,.ii 0,.ii 0,.ii 0,.ii 0,.ii 0,.ii 0]) d2 λd3=>(Ld 63 (ab_ e 0) d3 λi1=>rt t ((.tuple #[i1,.bool false,.ii d1])) d3)) ((∃d4,d4<u/\F d4 (GT .i64 (m+1)) d2))) (pE t))))) ((∃q:Nat->Nat->Int->ac,((∀g,bw v g->∃n:RK,(¬n P.heap.size/\(Ld 38 (ab_ P 0) g λw=>((PC_ 58 #[.pointer h] g (kS_ λD I J j=>(aj n g j/\((PC_ 133 #[.pointer h] j (kI_ λx k=>(aj n j k/\((PC_ 132 #[w,.ii p,.slice D I J,.ii (if d>x then d else x)] k (λi2 r=>sK (dz PP 63) λd5=>∃d6,i2= .tuple #[d5,.ii d6]/\(aj n k r/\PA r (.cells #[.ii 0,.ii 0,.ii 0,.slice none 0 0,.ii 0,.ii 0,.ii 0,.ii 0,.ii 0,.ii 0] 63) λG=>(aj n r G/\St 63 (ab_ r 0) d5 G λd7=>(aj n G d7/\q r.heap.size 0 d6 d7)))) (pZ t))/\(PA k (.cells #[.ii 0,.ii 0,.ii 0,.slice none 0 0,.ii 0,.ii 0,.ii 0,.ii 0,.ii 0,.ii 0] 63) λK=>(aj n k K/\PC_ 132 #[w,.ii p,.slice D I J,.ii (if d>x then d else x)] K (λi3 L=>sK (dz PP 63) λd8=>∃d9,i3= .tuple #[d8,.ii d9]/\(aj n K L/\St 63 (ab_ k 0) d8 L λe0=>(aj n L e0/\q k.heap.size 0 d9 e0))) (pZ t)))))) (pZ t))/\(PA j (.cells #[.ii 0,.ii 0,.ii 0,.slice none 0 0,.ii 0,.ii 0,.ii 0,.ii 0,.ii 0,.ii 0] 63) λM=>(aj n j M/\PC_ 133 #[.pointer h] M (kI_ λe1 N=>(aj n M N/\PC_ 132 #[w,.ii p,.slice D I J,.ii (if d>e1 then d else e1)] N (λi4 O=>sK (dz PP 63) λe2=>∃e3,i4= .tuple #[e2,.ii e3]/\(aj n N O/\St 63 (ab_ j 0) e2 O λe4=>(aj n O e4/\q j.heap.size 0 e3 e4))) (pZ t))) (pZ t)))))) (pZ t))/\(PA g (.cells #[.ii 0,.ii 0,.ii 0,.slice none 0 0,.ii 0,.ii 0,.ii 0,.ii 0,.ii 0,.ii 0] 63) λQ=>(aj n g Q/\PC_ 58 #[.pointer h] Q (kS_ λi5 i6 i7 R=>(aj n Q R/\PC_ 133 #[.pointer h] R (kI_ λe5 S=>(aj n R S/\PC_ 132 #[w,.ii p,.slice i5 i6 i7,.ii (if d>e5 then d else e5)] S (λi8 T=>sK (dz PP 63) λe6=>∃e7,i8= .tuple #[e6,.ii e7]/\(aj n S T/\St 63 (ab_ g 0) e6 T λe8=>(aj n T e8/\q g.heap.size 0 e7 e8))) (pZ t))) (pZ t))) (pZ t))))))))/\∀(e9:Nat) (f0:Nat) (U:Int) (j4:Nat->Value) (V:World),q e9 f0 U V->(Ld 63 (ad e9 f0) V λi9=>St 63 (ab_ e 0) i9 V λf1=>(Ld 63 (ab_ e 0) f1 λj0=>rt t ((.tuple #[j0,.bool (U==0),.ii U])) f1))))))) (pE t))))))))) (pE t)))) (pE t)))):ba 80 #[.agg #[.slice W a c,.slice X i o],.pointer h,.pointer Y,.ii p,.ii d,.agg #[.ii Z,.ii a2,.ii a3,.ii a4,.ii a5,.ii a6,.ii a7]] b t:=DC xV Tryz.func80 rfl a0
def uK:gE:=⟨[],[],[],[],[]⟩
def uL(n:(rI b (ad a (c+5)) λP=>al (P==(-1)) (rt t ((.ii 0)) b) ((rI b (ad a (c+5)) λd=>(rI b (ad i o) λe=>al (d==e) (rt t ((.ii 0)) b) (rt t ((.ii 11)) b)))))):ba 129 #[.pointer (some ⟨a,c,none⟩),.pointer (some ⟨i,o,none⟩)] b t:=DC uK Tryz.func129 rfl n
def xR:gE:=⟨[],[],[6],[],[(6,⟨[0,1,0,4,0,16,0,64,0,256,0,1024,0,4096,0,16384,43690,0,262143],[524287,524286,524287,524283,524287,524271,524287,524223,524287,524031,524287,523263,524287,520191,524287,507903,480597,524287,327679],[0,0,0,2,0,1,0,1,0,1,0,1,0,1,0,1,0,2,2]⟩)]⟩
def xt{p q r s u v w g h:Int}(O:PA b (.cells #[.ii p,.ii q,.ii r,.ii s,.ii u,.ii v,.ii w] 38) λn=>PA n (.cells #[.ii 0,.ii 0,.ii 0,.slice none 0 0,.ii 0,.ii 0,.ii 0,.ii 0,.ii 0,.ii 0] 63) λi=>al (decide (g<0)) (St 63 (ab_ n 0) (.agg #[.ii 0,.ii 0,.ii 0,.slice none 0 0,.ii 0,.ii 0,.ii 0,.ii 0,.ii 0,.ii 0]) i λx=>(Ld 63 (ab_ n 0) x λQ=>rt t ((.tuple #[Q,.ii 1])) x)) (al (decide (g>=(a:Int))) (St 63 (ab_ n 0) (.agg #[.ii 0,.ii 0,.ii 0,.slice none 0 0,.ii 0,.ii 0,.ii 0,.ii 0,.ii 0,.ii 0]) i λy=>(Ld 63 (ab_ n 0) y λR=>rt t ((.tuple #[R,.ii 1])) y)) (al (decide (h<0)) (St 63 (ab_ n 0) (.agg #[.ii 0,.ii 0,.ii 0,.slice none 0 0,.ii 0,.ii 0,.ii 0,.ii 0,.ii 0,.ii 0]) i λz=>(Ld 63 (ab_ n 0) z λS=>rt t ((.tuple #[S,.ii 1])) z)) (PC_ 196 #[.slice d a c,.ii g] i (kI_ λj k=>al (j==9223372036854775807) (St 63 (ab_ n 0) (.agg #[.ii 0,.ii 0,.ii 0,.slice none 0 0,.ii 0,.ii 0,.ii 0,.ii 0,.ii 0,.ii 0]) k λA=>(Ld 63 (ab_ n 0) A λT=>rt t ((.tuple #[T,.ii 13])) A)) (al (h==9223372036854775807) (St 63 (ab_ n 0) (.agg #[.ii 0,.ii 0,.ii 0,.slice none 0 0,.ii 0,.ii 0,.ii 0,.ii 0,.ii 0,.ii 0]) k λB=>(Ld 63 (ab_ n 0) B λU=>rt t ((.tuple #[U,.ii 13])) B)) ((∀P,bw k P->∃e:RK,(¬e b.heap.size/\(rI P (ab_ b 0) λD=>(¬e b.heap.size/\(rI P (ab_ b (0+1)) λC=>(¬e b.heap.size/\(rI P (ab_ b (0+2)) λE=>(¬e b.heap.size/\(rI P (ab_ b (0+3)) λG=>(¬e b.heap.size/\(rI P (ab_ b (0+4)) λF=>(¬e b.heap.size/\(rI P (ab_ b (0+6)) λH=>((PC_ 192 #[.slice d a c,.slice none 0 0] P (kS_ λV W X f=>(aj e P f/\PA f (.cells #[.ii 0,.ii 0,.ii 0,.slice none 0 0,.ii 0,.ii 0,.ii 0,.ii 0,.ii 0,.ii 0] 63) λl=>(aj e f l/\St 63 (ab_ f 0) (.agg #[.ii 0,.ii 0,.ii (GT .i64 (h+1)),.slice V W X,.ii D,.ii C,.ii E,.ii G,.ii F,.ii H]) l λI=>(aj e l I/\PS I (ab_ f 0) (.ii g) λY=>PS Y (ab_ f (0+1)) (.ii (GT .i64 (j+1))) λJ=>(Ld 63 (ab_ f 0) J λZ=>St 63 (ab_ n 0) Z J λK=>(Ld 63 (ab_ n 0) K λa1=>rt t ((.tuple #[a1,.ii 0])) K)))))) (pZ t))/\(PA P (.cells #[.ii 0,.ii 0,.ii 0,.slice none 0 0,.ii 0,.ii 0,.ii 0,.ii 0,.ii 0,.ii 0] 63) λm=>(aj e P m/\PC_ 192 #[.slice d a c,.slice none 0 0] m (kS_ λa2 a3 a4 o=>(aj e m o/\St 63 (ab_ P 0) (.agg #[.ii 0,.ii 0,.ii (GT .i64 (h+1)),.slice a2 a3 a4,.ii D,.ii C,.ii E,.ii G,.ii F,.ii H]) o λL=>(aj e o L/\PS L (ab_ P 0) (.ii g) λa5=>PS a5 (ab_ P (0+1)) (.ii (GT .i64 (j+1))) λM=>(Ld 63 (ab_ P 0) M λa6=>St 63 (ab_ n 0) a6 M λN=>(Ld 63 (ab_ n 0) N λa7=>rt t ((.tuple #[a7,.ii 0])) N))))) (pZ t)))))))))))))))))))) (pE t))))):ba 132 #[.agg #[.ii p,.ii q,.ii r,.ii s,.ii u,.ii v,.ii w],.ii g,.slice d a c,.ii h] b t:=DC xR Tryz.func132 rfl O
def iS(n:lE):List Value:=[WP n.aZ,WP n.agg,WP n.field,WP n.op,WP n.arg,WP n.expect,WP n.key]
abbrev xr(n:lE):Value:=.agg (iS n).toArray
def yC(n:lE):iM PP 38 (iS n)=true:=kR
section
variable {w w':World} {D:RK}
def DJ{tn m k o:Nat}(p:ft w)(h:bu w D S d tn s k)(q:∀a,D a->a<w.heap.size):
  ba 125 #[.agg #[.slice d tn m,.slice s k o],xr d6] w (Ok λe w'=>e= WP (jZ S d6)/\ai w w'):=by
 refine zN (PA.mk λv r x b=>PA.mk λt l y n=>?_);have b:=l.get b id;have c:=r.then l;have P:(d6.agg<0\/d6.key<0\/d6.expect< -1)->Ok (λe w'=>e= WP (jZ S d6)/\ai w w') (.returned (WP 1)) t:=λf=>Ok.mk ⟨by unfold jZ;rw[Zx f],c⟩;refine⟨_,ae n rfl,al.dec (λg=>P (.inl g)) (λg=>⟨_,ae n rfl,al.dec (λi=>P (.inr (.inl i))) (λi=>⟨_,ae n rfl,al.dec (λj=>P (.inr (.inr j))) (λj=>⟨_,_,_,_,_,_,ae b rfl,ae b rfl,_,ae n rfl,_,ae n rfl,_,ae n rfl,_,ae n rfl,PC.ok (yF (p.af c) (h.af c) λa f=>by have:=q a f;omega) ?_⟩)⟩)⟩)⟩;rintro _ z ⟨rfl,u⟩;exact⟨_,rfl,Ok.mk ⟨by unfold jZ;rw[Zq (by rintro(h|h|h);exact g h;exact i h;exact j h)],c.then u⟩⟩
def GN(a:∀b∈u,aM b)(n:Int):0<=fU u n/\fU u n<=9223372036854775807:=by
 unfold fU;split
 ·omega
 ·by_cases P:n.toNat<u.length
  ·have:=a _ (XY P)
   unfold aM at this;simp only[QQ,Qq P,Option.getD_some];omega
  ·simp only[QQ,Q7 (Nat.le_of_not_lt P),Option.getD_none]
   omega
def OV(n P:List Int):(kV n P).length=max n.length P.length:=by unfold kV;rw[tB]
def Um(P a:List Int)(d:∀n∈P,aM n)(e:∀n∈a,aM n):∀n∈kV P a,aM n:=by
 intro n b;unfold kV qT at b;obtain⟨c,-,rfl⟩:=Xk.1 b;have f:=GN d c;have g:=GN e c;unfold aM;omega
def jS(Q:Row aP 8 w D d a u)(hl:l<=9223372036854775807)(hn:u.length<=20000000):
  ba 132 #[xr d6,WP e,.slice d a c,WP l] w (Ok λv w'=>∃d a j G,v= .tuple #[kN (aX d6 e u l).2 d a j,WP (aX d6 e u l).1]/\Row aP 8 w' G d a (aX d6 e u l).2.aN/\(∀n,G n->w.heap.size<=n/\n<w'.heap.size)/\ai w w'):=by
 have a9:=Q.len;have A:=Q.uc;refine xt (PA.mk λB k1 s1 K=>PA.mk λL R s2 S=>?_);have K:=R.get K id;have j:=k1.then R;have k:∀{o:World} {no:Int},ai L o->aX d6 e u l=(no,sL)->nw PP 63 (LL B.heap.size) (kN sL none 0 0) o λw4=>jq PP 63 (LL B.heap.size) w4 λv=>Ok (λv w'=>∃d a j G,v= .tuple #[kN (aX d6 e u l).2 d a j,WP (aX d6 e u l).1]/\Row aP 8 w' G d a (aX d6 e u l).2.aN/\(∀n,G n->w.heap.size<=n/\n<w'.heap.size)/\ai w w') (.returned (.tuple #[v,WP no])) w4:=λ{o no} C T=>
  aD (bh sL none 0 0) (C.get S id) rfl λw4 m s4 M=>au (bh sL none 0 0) M (Ok.mk ⟨none,0,0,λ_=>False,by rw[T],by rw[T];exact Row.nil _ _,λn P=>P.elim,(j.then C).new m λn P=>.inr oM⟩)
 refine al.dec (λU=>k (aj.refl _) ?_) (λU=>al.dec (λh2=>k (aj.refl _) ?_) (λh2=>al.dec (λC=>k (aj.refl _) ?_) (λC=>PC.ok (oK (A.af j)) ?_)))
 ·unfold aX;rw[Zx (.inl U)]
 ·unfold aX;rw[Zx (.inr (.inl oM))]
 ·unfold aX;rw[Zx (.inr (.inr C))]
 rintro _ _ ⟨rfl,rfl⟩;have N:¬(e<0\/(u.length:Int)<=e\/l<0):=by rintro(h|h|h)<;>omega
 refine⟨_,rfl,al.eH (λJ=>k (aj.refl _) ?_) (λJ=>al.eH (λE=>k (aj.refl _) ?_) (λE=>λo V=>?_))⟩
 ·unfold aX;rw[Zq N,Zx (.inl J)]
 ·unfold aX;rw[Zq N,Zx (.inr E)]
 have W:aX d6 e u l=(0,⟨e,fU u e+1,l+1,kV u [],d6.aZ,d6.agg,d6.field,d6.op,d6.arg,d6.key⟩):=by
  unfold aX;rw[Zq N,Zq (by rintro(h|h);exact J h;exact E h)]
 have hg:=GN A.Ay e;have wl:GT .i64 (l+1)=l+1:=wrap_i64 (by unfold aM;omega);have ws:GT .i64 (fU u e+1)=fU u e+1:=wrap_i64 (by unfold aM;have:fU u e≠9223372036854775807:=J;omega);rw[wl,ws];have F:ai L o:=V.keep;have s3:o.heap.size=L.heap.size:=by rw[V.heap]
 have X:=j.then F;have y:=F.get K id;have Y:=F.get S id;have jl:(kV u []).length<=20000000:=by rw[OV];simp;omega
 have jI:∀a0∈kV u [],aM a0:=Um u [] A.Ay sM;have z:¬(o.heap.size<=w.heap.size):=oM
 have H:∀{w4 r:World} {b:am} {g i x:Nat},ai w r->Own r 3 1 b g i (ints (kV u []))->(∀n,aG b=some n->o.heap.size<=n/\n≠x)->r.heap[B.heap.size]? =some (.cells (aI sL none 0 0).toArray 63 (0,0))->r.heap[x]? =some (.cells #[WP 0,WP 0,WP (l+1),.slice b g i,WP d6.aZ,WP d6.agg,WP d6.field,WP d6.op,WP d6.arg,WP d6.key] 63 (0,0))->o.heap.size<=x->
   PS r ⟨x,0,none⟩ (WP e) λa4=>PS a4 ⟨x,0+1,none⟩ (WP (fU u e+1)) λZ=>jq PP 63 (LL x) Z λa5=>nw PP 63 (LL B.heap.size) a5 Z λa2=>jq PP 63 (LL B.heap.size) a2 λa6=>Ok (λv w'=>∃d a j G,v= .tuple #[kN (aX d6 e u l).2 d a j,WP (aX d6 e u l).1]/\Row aP 8 w' G d a (aX d6 e u l).2.aN/\(∀n,G n->w.heap.size<=n/\n<w'.heap.size)/\ai w w') (.returned (.tuple #[a6,WP 0])) a2:=λ{w4 r b g i x} E s p hz a7 b0=>by
  refine PS.mk a7 sM λw6 f s6 I=>PS.mk I sM λw7 O s7 g7=>?_;have a8:=O.get (f.get hz oM) oM;refine au (cs:=aI ⟨e,fU u e+1,l+1,kV u [],d6.aZ,d6.agg,d6.field,d6.op,d6.arg,d6.key⟩ b g i) (bh _ _ _ _) g7 (aD (bh _ _ _ _) a8 rfl λw8 k8 s8 g8=>au (bh _ _ _ _) g8 (Ok.mk ⟨b,g,i,λn=>aG b=some n,by rw[W],?_,λn P=>⟨by have:=p n P;omega,?_⟩,?_⟩))
  ·rw[W]
   have a3:=(((s.keep f (dy.2 λn P t=>(p n P).2 t)).keep O (dy.2 λn P t=>(p n P).2 t)).keep k8 (dy.2 λn P t=>by have:=p n P;omega))
   exact(⟨⟨_,λ_=>False,a3,lv.2 ⟨rfl,jI⟩,λ_ h=>h.elim⟩,λn P=>P,λn P=>a3.lt P⟩:aU aP 3 (λn=>aG b=some n) w8 b g i (kV u [])).row dC (by unfold aR;omega)
  ·have:=s.lt P;omega
  ·exact((E.new f λn P=>.inr oM).new O λn P=>.inr oM).new k8 λn P=>.inr oM
 refine⟨λn=>o.heap.size<=n,z,_,ae y rfl,z,_,ae y rfl,z,_,ae y rfl,z,_,ae y rfl,z,_,ae y rfl,z,_,ae y rfl,PC.ok (Bu ((A.af j).af F) (Ints.nil _)) ?_,PA.mk λw4 m s4 M=>⟨ai.keep m,PC.ok (Bu (((A.af j).af F).af m) (Ints.nil _)) ?_⟩⟩
 ·rintro _ w4 ⟨b,g,i,rfl,s,m,p⟩
  have z4:=m.size;refine⟨_,_,_,rfl,ai.keep m,PA.mk λr q s5 g5=>⟨ai.keep q,aD (cs:=[WP 0,WP 0,WP (l+1),.slice b g i,WP d6.aZ,WP d6.agg,WP d6.field,WP d6.op,WP d6.arg,WP d6.key]) (bh ⟨0,0,l+1,[],d6.aZ,d6.agg,d6.field,d6.op,d6.arg,d6.key⟩ b g i) g5 rfl λw6 f s6 I=>⟨f.mono λn _ t=>oM,H (w4:=w4) (((X.then m).then q).new f λn P=>.inr oM) ((s.af q).keep f (dy.2 λn P t=>by have:=s.lt P;omega)) (λn P=>⟨p n P,by have:=s.lt P;omega⟩) (f.get (q.get (m.get Y id) id) oM) I oM⟩⟩⟩
 ·rintro _ r ⟨b,g,i,rfl,s,q,p⟩
  have z5:=q.size;refine⟨_,_,_,rfl,ai.keep q,aD (cs:=[WP 0,WP 0,WP (l+1),.slice b g i,WP d6.aZ,WP d6.agg,WP d6.field,WP d6.op,WP d6.arg,WP d6.key]) (bh ⟨0,0,l+1,[],d6.aZ,d6.agg,d6.field,d6.op,d6.arg,d6.key⟩ b g i) (q.get M id) rfl λw6 f s6 I=>⟨f.mono λn _ t=>oM,H (w4:=w4) (((X.then m).then q).new f λn P=>.inr oM) (s.keep f (dy.2 λn P t=>by have:=p n P;omega)) (λn P=>⟨by have:=p n P;omega,by have:=p n P;omega⟩) (f.get (q.get (m.get Y id) id) oM) I oM⟩⟩
end
section
variable {w w':World} {D Fs Fv:RK} {s v:Nat} {S:aw} {V:bf} {d:aT} {c:lE} {origin start:Int}
def wR(w:World)(n:ah×Bool×Int)(c:Value)(w':World):Prop:=∃a b d G,c= .tuple #[kN n.1 a b d,.bool n.2.1,WP n.2.2]/\Row aP 8 w' G a b n.1.aN/\(∀P,G P->w.heap.size<=P/\P<w'.heap.size)/\ai w w'
def yv(d:aT)(s:aw)(v:bf)(origin start:Int)(c:lE):gD d s v origin start c=if jZ d c≠0 then(sL,false,jZ d c)else
  match s.keyed c.key with
  |some n=>(n,false,0)
  |none=>if¬(c.expect= -1\/c.expect=((v.state c.aZ c.agg).getD ⟨0,[]⟩).version)then(sL,false,11)else
   if xm (d.at c.aZ) (match v.state c.aZ c.agg with|some P=>P.cells|none=>ef (d.at c.aZ)) c.field c.op c.arg≠0 then(sL,false,10)else
   ((aX c origin s.vec (max s.top start)).2,decide ((aX c origin s.vec (max s.top start)).1=0),(aX c origin s.vec (max s.top start)).1):=rfl
def Eo{ta pa:am}{tn tc pn pc:Nat}(hT:ft w)(hd:bu w D d ta tn pa pn)(hD:∀n,D n->n<w.heap.size)(j0:dm d=0)(hs:cM w s Fs S)(j1:S.l.length<=20000000)(hv:cJ w v Fv V)(j2:V.decl=d)(o4:start<=9223372036854775807)(o1:S.top<=9223372036854775807):
  ba 80 #[.agg #[.slice ta tn tc,.slice pa pn pc],LL s,LL v,WP origin,WP start,xr c] w (Ok (wR w (gD d S V origin start c))):=by
 refine xW (PA.mk λw1 k1 s1 g1=>PA.mk λw2 k2 s2 g2=>PA.mk λw3 k3 s3 g3=>?_);have q:=(k1.then k2).then k3;have gd:=k3.get (k2.get g1 id) id;have gc:=k3.get g2 id;have y:∀{z:World} {no:Int},ai w3 z->gD d S V origin start c=(sL,false,no)->nw PP 63 (LL w2.heap.size) (kN sL none 0 0) z λt=>jq PP 63 (LL w2.heap.size) t λr=>Ok (wR w (gD d S V origin start c)) (.returned (.tuple #[r,.bool false,WP no])) t:=λ{z no} h4 Q=>
  aD (bh sL none 0 0) (h4.get g3 id) rfl λt k5 s5 g5=>au (bh sL none 0 0) g5 (Ok.mk ⟨none,0,0,λ_=>False,by rw[Q],by rw[Q];exact Row.nil _ _,λn P=>P.elim,(q.then h4).new k5 λn P=>.inr oM⟩)
 refine⟨_,_,_,_,_,_,ae gd rfl,ae gd rfl,au (yC c) gc (PC.ok (DJ (hT.af q) (hd.af q) λn P=>by have:=hD n P;omega) ?_)⟩;rintro _ z ⟨rfl,R⟩;refine⟨_,rfl,al.eK (λT=>y R (by rw[yv,Zx T])) (λe5=>⟨_,ae (R.get gc id) rfl,PC.ok (Qo (hs.af (q.then R)) j1) ?_⟩)⟩;rintro _ t ⟨U,W,X,G5,rfl,e6,e7,k5⟩;have b5:=R.then k5;have o5:=b5.size;have A:∀{r:ah×Bool×Int},(match S.keyed c.key with
  |some k=>(k,false,0)
  |none=>if¬(c.expect= -1\/c.expect=((V.state c.aZ c.agg).getD ⟨0,[]⟩).version)then(sL,false,11)else
   if xm (d.at c.aZ) (match V.state c.aZ c.agg with|some B=>B.cells|none=>ef (d.at c.aZ)) c.field c.op c.arg≠0 then(sL,false,10)else
   ((aX c origin S.vec (max S.top start)).2,decide ((aX c origin S.vec (max S.top start)).1=0),(aX c origin S.vec (max S.top start)).1))=r->gD d S V origin start c=r:=λ{r} hr=>by
  rw[yv,Zq (by simpa using e5)];exact hr
 refine cz (sI _ U W X) ⟨_,rfl,PA.mk λw6 k6 s6 g6=>aD (bh _ U W X) g6 rfl λl k7 s7 g7=>al.mk (λhk=>?_) (λhk=>?_)⟩
 ·obtain⟨k,Q⟩:=Option.isSome_iff_exists.1 hk
  rw[Q]at e6 g7 A;have b1:ai t l:=k6.new k7 λn P=>.inr oM;refine au (bh _ U W X) g7 (aD (bh _ U W X) (b1.get (b5.get g3 id) id) rfl λw8 k8 s8 g8=>au (bh _ U W X) g8 (Ok.mk ⟨U,W,X,G5,?_,?_,λn P=>?_,?_⟩))
  ·rw[A rfl];rfl
  ·rw[A rfl]
   exact(e6.af b1).keep k8 λn P k=>by have:=e7 n P;have:=q.size;have:=R.size;omega
  ·have:=e7 n P;have:=q.size;have:=R.size;omega
  ·exact((q.then b5).then b1).new k8 λn P=>.inr oM
 have d2:S.keyed c.key=none:=by simpa using hk
 rw[d2]at A;have b1:ai t l:=k6.new k7 λn P=>.inr oM;have K:=b5.then b1;have o6:=K.size;have b6:=q.then K;have e8:lS d c.aZ c.field c.op c.arg=0:=by
  have:=e5;unfold jZ at this;split at this
  ·simp at this
  ·exact this
 have j3:V.decl.at c.aZ=d.at c.aZ:=by rw[j2]
 obtain⟨hV,b0,hq⟩:=hv;have a6:(match V.state c.aZ c.agg with|some B=>B.cells|none=>ef (d.at c.aZ)).length=(d.at c.aZ).length:=by
  unfold bf.state
  cases hs:an V.eR (c.aZ,c.agg)with
  |none=>simp[ef]
  |some s=>rw[<-j3];exact hV.st _ (cx hs)
 obtain⟨c4,t0,t1,o7⟩:=Oq j0 e8 a6;obtain⟨C,e9⟩:∃C:Nat,c.aZ=C:=⟨c.aZ.toNat,oM⟩
 have j4:d.at c.aZ=d.types.getD C []:=by
  unfold aT.at;rw[Zx (bI.2 ⟨t0,oM⟩),e9,Qx]
 obtain⟨tb,mQ,es,j5,o8,o2,j6,fa,fn,fc,rfl,b2⟩:=(hd.af b6).aZ.el C d.types[C] sM;have b2:Row sJ 48 l D fa fn (d.at c.aZ):=by
  rw[j4];have:d.types.getD C []=d.types[C]:=by simp[QQ,show C<d.types.length by omega]
  rw[this];exact b2
 have o9:=(hd.af b6).aZ.len;have c7:=j6 0 dC;have f2:nz.k=1:=rfl;rw[f2,Nat.mul_one]at c7;have j7:=K.get gd id;have f4:=K.get gc id;refine⟨_,_,_,ae j7 rfl,_,ae f4 rfl,tb,mQ,j5,t0,oM,fa,fn,fc,by rw[e9,Qx];exact c7,PA.mk λw8 k8 s8 g8=>PS.mk g8 sM λw9 k9 s9 g9=>?_⟩;have Y:ai l w9:=k8.new k9 λn P=>.inr oM;have d3:=Y.get f4 id;have d4:cJ w v Fv V:=⟨hV,b0,hq⟩
 refine⟨_,ae d3 rfl,_,ae d3 rfl,PC.ok (oC (d4.af (b6.then Y))) ?_⟩;rintro _ d5 ⟨ca,cn,cc,j8,rfl,f5,o3,L⟩;have b3:=Y.then L;have f6:=b6.then b3;have p0:=b3.size;obtain⟨E,hX⟩:∃E,E=(match V.state c.aZ c.agg with|some B=>B.cells|none=>ef (d.at c.aZ)):=⟨_,rfl⟩
 rw[<-hX]at c4 a6 A;refine⟨_,_,_,_,_,rfl,PA.mk λp1 j9 p2 k0=>PS.mk k0 sM λp3 l0 p4 l3=>PS.mk l3 sM λf8 l4 p5 g0=>?_⟩;have a5:ai d5 f8:=(j9.new l0 λn P=>.inr oM).new l4 λn P=>.inr oM;have l5:f8.heap[l.heap.size]? =some (.cells #[.slice fa fn fc] 118 (0,0)):=a5.get (L.get g9 id) id;have c8:=f5.af a5;refine⟨λw'=>ai d5 w'/\∃ca cn cc G,w'.heap[d5.heap.size]? =some (.cells #[WP ((V.state c.aZ c.agg).getD HY).version,.slice ca cn cc] 49 (0,0))/\Row gC 32 w' G ca cn E,?_,?_⟩
 ·refine al.not (al.mk (λl6=>⟨a5,ca,cn,cc,j8,g0,?_⟩) (λl7=>⟨_,_,_,ae l5 rfl,PC.ok (Ix (t:=d.at c.aZ) rfl b2.len (by rw[b2.len];omega)) ?_⟩))
  ·obtain⟨B,Z⟩:=Option.isSome_iff_exists.1 l6
   rw[Z]at c8 hX;have b7:E=B.cells:=hX;rw[b7];exact c8.row dC (by show B.cells.length*32<=aR;rw[<-b7,a6];unfold aR;omega)
  ·rintro _ p6 ⟨c0,n6,c6,G6,rfl,l8,d6,l9⟩
   have p7:=d6.size;refine⟨_,_,_,rfl,PS.mk (d6.get g0 id) sM λp8 g4 p9 m0=>⟨(a5.then d6).new g4 λn P=>.inr oM,c0,n6,c6,G6,m0,?_⟩⟩;have hn:V.state c.aZ c.agg=none:=by simpa using l7
   rw[hn]at hX;have b7:E=ef (d.at c.aZ):=hX;rw[b7];exact(l8.keep g4 λn P k=>by have:=l9 n P;omega).row dC (by unfold aR ef;simp;omega)
 rintro _ m1 ⟨m2,q0,q1,q2,G2,h3,h5⟩;refine PA.mk λh8 d7 q3 m3=>?_;have F:=m2.then d7;have m4:=F.size;have c9:=f6.then F;have h9:=d7.get h3 id;have i0:=F.get (L.get d3 id) id;have i1:=F.get (L.get g9 id) id;have i2:=(((K.then Y).then L).then F).get g3 id;have m:∀{z:World} {no:Int},ai h8 z->gD d S V origin start c=(sL,false,no)->nw PP 63 (LL w2.heap.size) (kN sL none 0 0) z λt=>jq PP 63 (LL w2.heap.size) t λr=>Ok (wR w (gD d S V origin start c)) (.returned (.tuple #[r,.bool false,WP no])) t:=λ{z no} h4 Q=>y (((K.then Y).then L).then (F.then h4)) Q;refine⟨λa9 c5 w'=>∃H:Nat,c5=H/\H<=2/\a9=2-H/\ai h8 w'/\(1<=H->c.expect= -1\/c.expect=((V.state c.aZ c.agg).getD ⟨0,[]⟩).version)/\(2<=H->xm (d.at c.aZ) E c.field c.op c.arg=0),⟨_,0,rfl,oM,rfl,aj.refl _,λh=>oM,λh=>oM⟩,?_⟩;rintro a9 _ _ xg ⟨H,rfl,hj,rfl,i,d8,m5⟩;have d0:=i.get h9 id;have a0:=i.get i0 id;have i3:=i.get i1 id;have d1:=i.get m3 id;refine al.dec (λq4=>⟨m1.heap.size,0,rfl,oM,oM,?_⟩) (λq5=>?_)
 ·have m6:H=0\/H=1:=oM
  rcases m6 with rfl|rfl
  ·refine⟨_,ae d1 rfl,_,_,_,rfl,kR,PC.ok (φ:=λv w'=>v= WP (if c.expect= -1\/c.expect=((V.state c.aZ c.agg).getD ⟨0,[]⟩).version then 0 else 11)/\xg=w') (uL ⟨_,ae a0 rfl,al.eH (λh1=>Ok.mk ⟨by rw[Zx (.inl h1)],rfl⟩) (λh1=>⟨_,ae a0 rfl,_,ae d0 rfl,al.eH (λh2=>Ok.mk ⟨by rw[Zx (.inr h2)],rfl⟩) (λh2=>Ok.mk ⟨by rw[Zq (by rintro(h|h);exact h1 h;exact h2 h)],rfl⟩)⟩)⟩) ?_⟩
   rintro _ _ ⟨rfl,rfl⟩
   by_cases Z:c.expect= -1\/c.expect=((V.state c.aZ c.agg).getD ⟨0,[]⟩).version
   ·rw[Zx Z]
    exact⟨_,rfl,al.ff rfl ⟨_,oM,1,rfl,oM,rfl,i,λ_=>Z,λh=>oM⟩⟩
   ·rw[Zq Z]
    exact⟨_,rfl,al.tt rfl (m i (A (by rw[Zx Z])))⟩
  ·refine⟨_,ae d1 rfl,_,_,_,rfl,kR,PC.ok (φ:=λv w'=>v= WP (xm (d.at c.aZ) E c.field c.op c.arg)/\ai xg w') (uN ⟨_,_,_,ae i3 rfl,_,_,_,ae d0 rfl,_,ae a0 rfl,_,ae a0 rfl,_,ae a0 rfl,PC.ok (Iw c4 ((b2.af (b3.then F)).af i) ((h5.af d7).af i)) ?_⟩) ?_⟩
   ·rintro _ m7 ⟨rfl,b8⟩
    exact⟨_,rfl,Ok.mk ⟨rfl,b8⟩⟩
   ·rintro _ m7 ⟨rfl,b8⟩
    refine⟨_,rfl,al.eK (λT=>m (i.then b8) (A ?_)) (λh0=>⟨_,oM,2,rfl,oM,rfl,i.then b8,λ_=>d8 oM,λ_=>h0⟩)⟩;have m8:xm (d.at c.aZ) E c.field c.op c.arg=10:=by
     rw[Gy]at T⊢;split at T
     ·simp at T
     ·rename_i hq;rw[Zq hq]
    rw[Zq (λh=>h (d8 oM)),Zx T,m8]
 have i4:=A (r:=((aX c origin S.vec (max S.top start)).2,decide ((aX c origin S.vec (max S.top start)).1=0),(aX c origin S.vec (max S.top start)).1)) (by rw[Zq (λh=>h (d8 oM)),Zq (by rw[m5 oM];simp)]);have I:(if start>S.top then start else S.top)=max S.top start:=by split<;>omega
 have b9:(if start>S.top then start else S.top)<=9223372036854775807:=by split<;>omega
 refine⟨λeb eo no w'=>eo=0/\no=(aX c origin S.vec (max S.top start)).1/\ai xg w'/\∃a2 a3 a7 G,w'.heap[eb]? =some (.cells (aI (aX c origin S.vec (max S.top start)).2 a2 a3 a7).toArray 63 (0,0))/\Row aP 8 w' G a2 a3 (aX c origin S.vec (max S.top start)).2.aN/\∀n,G n->xg.heap.size<=n/\n<w'.heap.size,?_,?_⟩
 rotate_left
 ·rintro eb _ no _ q6 ⟨rfl,rfl,d9,a,b,e,p,ge,u,f⟩
  have i5:=d9.get (i.get i2 id) id;have zk:=i.size;have q7:=d9.size;have zw:=q.size;refine au (bh _ a b e) ge (aD (bh _ a b e) i5 rfl λq8 i6 q9 m9=>au (bh _ a b e) m9 (Ok.mk ⟨a,b,e,p,?_,?_,λn P=>?_,?_⟩))
  ·rw[i4];rfl
  ·rw[i4];exact u.keep i6 λn P k=>by have:=f n P;omega
  ·have:=f n P;omega
  ·exact(((c9.then i).then d9)).new i6 λn P=>.inr oM
 ·intro M i7
  have e0:ai xg M:=i7.keep;have r0:M.heap.size=xg.heap.size:=by rw[i7.heap]
  have i8:=e0.get a0 id;have a4:=hs.af ((c9.then i).then e0);have zk:=i.size;have hn:=hs.1.n;have c1:S.vec.length<=20000000:=by rw[S.bU];omega
  have c2:S.vec.length*8<=aR:=by unfold aR;omega
  have x:∀{wE w6 l:World} {a1:Nat} {a:am} {b e:Nat} {p:RK},ai M wE->Row aP 8 wE p a b (aX c origin S.vec (max S.top start)).2.aN->(∀n,p n->M.heap.size<=n/\n<wE.heap.size/\n≠a1)->ai wE w6->M.heap.size<=a1->aj (λn=>n=a1) w6 l->l.heap.size=w6.heap.size->l.heap[a1]? =some (.cells (aI (aX c origin S.vec (max S.top start)).2 a b e).toArray 63 (0,0))->
    (λ(eb eo:Nat) (no:Int) (w':World)=>eo=0/\no=(aX c origin S.vec (max S.top start)).1/\ai xg w'/\∃a2 a3 a7 G,w'.heap[eb]? =some (.cells (aI (aX c origin S.vec (max S.top start)).2 a2 a3 a7).toArray 63 (0,0))/\Row aP 8 w' G a2 a3 (aX c origin S.vec (max S.top start)).2.aN/\∀n,G n->xg.heap.size<=n/\n<w'.heap.size) a1 0 (aX c origin S.vec (max S.top start)).1 l:=λ{wE w6 l a1 a b e p} hE hr hG h6 hg h7 r3 n0=>by
   have z6:=h6.size;exact⟨rfl,rfl,((e0.then hE).then h6).new h7 λn P=>.inr oM,a,b,e,p,n0,(hr.af h6).keep h7 λn P k=>(hG n P).2.2 k,λn P=>by have:=hG n P;omega⟩
  have zc:¬(M.heap.size<=w1.heap.size):=by
   have h1:=((((k3.then K).then Y).then L).then F).size;omega
  refine⟨λn=>M.heap.size<=n,zc,au (yC c) i8 ⟨PC.ok (mu a4) ?_,PA.mk λr4 c3 r5 n1=>⟨ai.keep c3,PC.ok (mu (a4.af c3)) ?_⟩⟩⟩
  ·rintro _ n2 ⟨av,nv,cv,a8,rfl,b4,j,n3⟩
   have n4:=j.size;refine⟨_,_,_,rfl,ai.keep j,PC.ok (HV (a4.af j)) ?_,PA.mk λn8 J n9 e1=>⟨ai.keep J,PC.ok (HV ((a4.af j).af J)) ?_⟩⟩
   ·rintro _ _ ⟨rfl,rfl⟩
    refine⟨_,rfl,aj.refl _,?_,?_⟩
    ·rw[I]
     refine PC.ok (jS (b4.row dC c2) (by rw[<-I];exact b9) c1) ?_;rintro _ e2 ⟨a,b,e,p,rfl,u,f,g⟩;have e3:=g.size;exact cz (sI _ a b e) ⟨_,rfl,ai.keep g,PA.mk λr6 i9 r7 o0=>⟨ai.keep i9,aD (bh _ a b e) o0 rfl λe4 o N O=>⟨o.mono λn _ k=>oM,x (j.then g) u (λn P=>⟨by have:=f n P;omega,(f n P).2,by have:=f n P;omega⟩) i9 oM o N O⟩⟩⟩
    ·refine PA.mk λn8 J n9 e1=>⟨ai.keep J,?_⟩
     rw[I];refine PC.ok (jS ((b4.af J).row dC c2) (by rw[<-I];exact b9) c1) ?_;rintro _ e2 ⟨a,b,e,p,rfl,u,f,g⟩;have e3:=g.size;exact cz (sI _ a b e) ⟨_,rfl,ai.keep g,aD (bh _ a b e) (g.get e1 id) rfl λe4 o N O=>⟨o.mono λn _ k=>oM,x ((j.then J).then g) u (λn P=>⟨by have:=f n P;omega,(f n P).2,by have:=f n P;omega⟩) (aj.refl _) oM o N O⟩⟩
   ·rintro _ _ ⟨rfl,rfl⟩
    refine⟨_,rfl,aj.refl _,?_⟩;rw[I];refine PC.ok (jS ((b4.af J).row dC c2) (by rw[<-I];exact b9) c1) ?_;rintro _ e2 ⟨a,b,e,p,rfl,u,f,g⟩;have e3:=g.size;exact cz (sI _ a b e) ⟨_,rfl,ai.keep g,aD (bh _ a b e) (g.get e1 id) rfl λe4 o N O=>⟨o.mono λn _ k=>oM,x ((j.then J).then g) u (λn P=>⟨by have:=f n P;omega,(f n P).2,by have:=f n P;omega⟩) (aj.refl _) oM o N O⟩⟩
  ·rintro _ n2 ⟨av,nv,cv,a8,rfl,b4,j,n3⟩
   have n4:=j.size;refine⟨_,_,_,rfl,ai.keep j,PC.ok (HV ((a4.af c3).af j)) ?_⟩;rintro _ _ ⟨rfl,rfl⟩;refine⟨_,rfl,aj.refl _,?_⟩;rw[I];refine PC.ok (jS (b4.row dC c2) (by rw[<-I];exact b9) c1) ?_;rintro _ e2 ⟨a,b,e,p,rfl,u,f,g⟩;have e3:=g.size;exact cz (sI _ a b e) ⟨_,rfl,ai.keep g,aD (bh _ a b e) ((j.then g).get n1 id) rfl λe4 o N O=>⟨o.mono λn _ k=>oM,x ((c3.then j).then g) u (λn P=>⟨by have:=f n P;omega,(f n P).2,by have:=f n P;omega⟩) (aj.refl _) oM o N O⟩⟩
end
structure kp where
 ta:am
 tn:Nat
 tc:Nat
 pa:am
 pn:Nat
 pc:Nat
 dp:Nat
 lp:am
 sp:Nat
 bp:Nat
 wp:Nat
 tp:Nat
abbrev kp.cells(n:kp)(P:bN)(a:Int):Array Value:= #[WP P.aC,WP P.uR,WP P.bj,WP P.chunk,WP P.buffer,WP P.di,WP P.every,WP P.start,.slice n.ta n.tn n.tc,.slice n.pa n.pn n.pc,WP a,
 LL n.dp,.pointer n.lp,LL n.sp,LL n.bp,LL n.wp,LL n.tp]
def DL(b:World)(G:RK)(c:Nat)(d:am)(D:ak)(P:Option dv):Prop:=
 ∃a,aV b c a D/\(∀n,a n->G n)/\match P with
  |none=>d=none
  |some e=>e.a_≠[]/\∃f g,d=some ⟨f,0,none⟩/\jy b c f g e/\∀n,g n->G n/\¬a n
def Py(b:World)(G:RK)(c:Nat)(n:Nat)(d:List ah):Prop:=∃a D,iw b c a D n d/\(∀P,a P->G P)/\∀P,D P->G P
def mj(c:Nat)(d:Array Value)(P:kp)(b:bN)(a:bg)(e:List ah):Nat->World->(RK)->Prop
 |0=>λn G=>G c/\n.heap[c]? =some (.cells d 105 (0,0))
 |1=>λn G=>bu n G b.decl P.ta P.tn P.pa P.pn
 |2=>λn G=>DL n G P.dp P.lp a.D a.log
 |3=>λn G=>cM n P.sp G a.S/\a.S.Cl/\a.S.n=b.aC.toNat
 |4=>λn G=>dh n P.bp G b.decl b.every.toNat e
 |5=>λn G=>Py n G P.wp b.buffer.toNat a.waits
 |6=>λn G=>ey n P.tp G a.gG
 |_=>λ_ _=>True
section
variable {w w' w0:World} {p:Nat} {F G T:RK} {cls:Nat->Nat} {h:kp} {c:bN} {self:Int} {X:bg} {dp:Nat} {lp:am} {D:ak} {log:Option dv}
def DL.keep(h:DL w G dp lp D log)(a:aj T w w')(b:∀n,G n->¬T n):DL w' G dp lp D log:=by
 obtain⟨f,g,c,d⟩:=h;refine⟨f,g.keep a λn P=>b n (c n P),c,?_⟩
 cases log with
 |none=>exact d
 |some o=>
  obtain⟨i,j,k,l,m,e⟩:=d;exact⟨i,j,k,l,m.keep a λn P=>b n (e n P).1,e⟩
def cd{g:Array Value}:mq (mj p g h c X H):=by
 intro k w w' G T n a P
 match k,n with
 |0,n=>exact⟨n.1,a.get n.2 (P p n.1)⟩
 |1,n=>exact bu.keep n a P
 |2,n=>exact DL.keep n a P
 |3,n=>exact⟨cM.keep n.1 a P,n.2⟩
 |4,n=>exact dh.keep n a P
 |5,n=>obtain⟨i,D,j,e,f⟩:=n;exact⟨i,D,j.keep a (λb d=>P b (e b d)) λb d=>P b (f b d),e,f⟩
 |6,n=>exact ey.keep n a P
 |k+7,n=>trivial
structure jX (c:bN) (me:Int):Prop where
 right:fF c me=true
 decl:dm c.decl=0
 seg:aM c.bj
 every:aM c.every
 start:aM c.start
structure Env (w0 w:World) (F:RK):Prop where
 pW:ft w0
 laid:Laid w0
 gr:ai w0 w
 aF:∀b,F b->w0.heap.size<=b
def Env.iE(h:Env w0 w F)(a:cy F w f w'):Env w0 w' f:=⟨h.pW,h.laid,h.gr.new a.keep λn P=>.inr (h.aF n P),λn P=>(a.new n P).elim (h.aF n) λb=>by have:=h.gr.size;omega⟩
def Env.af(h:Env w0 w F)(n:ai w w'):Env w0 w' F:=⟨h.pW,h.laid,h.gr.then n,h.aF⟩
abbrev cP(w:World)(F:RK)(cls:Nat->Nat)(p:Nat)(h:kp)(c:bN)(self:Int)(X:bg):Prop:=bb w F cls (mj p (h.cells c self) h c X X.S.l)
def bY(w:World)(p:Nat)(F:RK)(c:bN)(self:Int)(X:bg):Prop:=jX c self/\∃h cls,cP w F cls p h c self X
def cP.af(n:cP w F cls p h c self X)(P:ai w w'):cP w' F cls p h c self X:=bb.af n cd P
def cP.bC(n:cP w F cls p h c self X):w.heap[p]? =some (.cells (h.cells c self) 105 (0,0)):=(n.at' 0).2
def cP.Kb(n:cP w F cls p h c self X):F p/\cls p=0:=(n.at' 0).1
def bY.keep(P:bY w p F c self X)(a:aj T w w')(b:∀n,F n->¬T n):bY w' p F c self X:=by
 obtain⟨d,h,cls,e⟩:=P;exact⟨d,h,cls,bb.keep e cd a b⟩
def bY.af(n:bY w p F c self X)(P:ai w w'):bY w' p F c self X:=n.keep P λ_ _ h=>h
def bY.aF(P:bY w p F c self X):∀n,F n->n<w.heap.size:=by obtain⟨b,h,cls,a⟩:=P;exact a.aF
def cP.store{e a:Array Value}{b:kp}(n:bb w F cls (mj p e b c X H))(f:aj (·=p) w w')(g:w'.heap[p]? =some (.cells a 105 (0,0))):bb w' F cls (mj p a b c X H):=by
 refine bb.same n cd (k:=0) (f.mono λh _ P=>by have P:h=p:=P;exact P▸(n.at' 0).1) ⟨(n.at' 0).1,g⟩ λd G i j=>?_;rcases d with _|_|_|_|_|_|_|d<;>first|exact j|exact Zz rfl i
def DL.PZ(g:DL w G dp lp D (some b4))(c:Env w0 w G)(l:∀n,G n->n<w.heap.size):∃b,lp=L1 b/\b4.a_≠[]/\cI w0 w dp b b4 D (λn=>n<w.heap.size/\¬G n):=by
 obtain⟨h,i,e,j,b,k,rfl,f,d⟩:=g;refine⟨b,rfl,j,k,⟨h,i,c.gr,λn P=>⟨c.aF n (e n P),λa=>?_⟩,λn P=>?_⟩,f,λn P=>⟨c.aF n (d n P).1,λa=>a.2 (d n P).1⟩⟩
 ·rcases a with a|a
  ·exact a.2 (e n P)
  ·exact(d n a).2 P
 ·rcases P with P|P
  ·exact P.1
  ·exact f.aF n P
def DL.uR(c:DL w G dp lp D log)(a:Env w0 w G):aY w0 w dp D (λn=>n<w.heap.size/\¬G n):=by
 obtain⟨d,e,b,-⟩:=c;exact⟨d,e,a.gr,λn P=>⟨a.aF n (b n P),λf=>f.2 (b n P)⟩,λn P=>P.1⟩
def DL.HI{Y:RK}(l:cI w0 w' dp a b4 D (λn=>(n<w.heap.size/\¬G n)\/Y n))(m:aj (dX λn=>n<w.heap.size/\¬G n) w w')(o:b4.a_≠[]):∃c,DL w' c dp (L1 a) D (some b4)/\cy G w c w'/\(∀n,c n->n<w'.heap.size)/\∀n,c n->¬Y n:=by
 obtain⟨f,⟨g,h,r,d,s⟩,i,j⟩:=l;have e:∀n,¬(n<w.heap.size/\¬G n)->G n\/w.heap.size<=n:=λn P=>by
  rcases Nat.lt_or_ge n w.heap.size with b|b
  ·exact .inl (Classical.byContradiction λp=>P ⟨b,p⟩)
  ·exact .inr b
 refine⟨λn=>g n\/f n,⟨g,h,λn P=>.inl P,o,a,f,rfl,i,λn P=>⟨.inr P,λq=>(d n q).2 (.inr P)⟩⟩,⟨m.mono λn t P=>(e n P).resolve_right oM,λn P=>?_⟩,λn P=>?_,λn P k=>?_⟩
 ·rcases P with P|P
  ·exact e n λb=>(d n P).2 (.inl (.inl b))
  ·exact e n λb=>(j n P).2 (.inl b)
 ·exact P.elim (h.aF n) (i.aF n)
 ·rcases P with P|P
  ·exact(d n P).2 (.inl (.inr k))
  ·exact(j n P).2 (.inr k)
def DL.Og{Y:RK}(g:aY w0 w' dp D (λn=>(n<w.heap.size/\¬G n)\/Y n))(h:aj (dX λn=>n<w.heap.size/\¬G n) w w'):∃b,DL w' b dp none D none/\cy G w b w'/\(∀n,b n->n<w'.heap.size)/\∀n,b n->¬Y n:=by
 obtain⟨c,d,k,e,l⟩:=g;have f:∀n,¬(n<w.heap.size/\¬G n)->G n\/w.heap.size<=n:=λn P=>by
  rcases Nat.lt_or_ge n w.heap.size with a|a
  ·exact .inl (Classical.byContradiction λi=>P ⟨a,i⟩)
  ·exact .inr a
 exact⟨c,⟨c,d,λn P=>P,rfl⟩,⟨h.mono λn m P=>(f n P).resolve_right oM,λn P=>f n λa=>(e n P).2 (.inl a)⟩,λn P=>d.aF n P,λn P j=>(e n P).2 (.inr j)⟩
end
def Kj{D:ak}(P:b4.a_≠[]):(aH b4 D).2.1.a_≠[]:=by
 have b:∀n:ak,(lP b4 n).2.1.a_≠[]:=by
  intro n;unfold lP;dsimp only;split
  ·exact P
  ·split
   ·exact P
   ·simp
 have a:∀n:ak,(bA b4 n).2.1.a_≠[]:=by
  intro n;unfold bA;dsimp only;split
  ·exact P
  ·exact b _
 unfold aH;dsimp only;split
 ·exact a D
 ·split
  ·exact P
  ·exact a _
def HL{D:ak}{l:List ah}(n:b4.a_≠[]):(aE b4 D l).2.1.a_≠[]:=by
 unfold aE;dsimp only;have P:(if b4.size<=b4.bytes then aH b4 D else(0,b4,D)).2.1.a_≠[]:=by
  split
  ·exact Kj n
  ·exact n
 generalize(if b4.size<=b4.bytes then aH b4 D else(0,b4,D))=a at P⊢;split
 ·exact n
 split
 ·exact n
 split
 ·exact P
 split
 ·exact P
 ·exact P
def Tc(c:Row kY 96 b f d a H):∀n∈H,n.Ok:=λn e=>by
 obtain⟨P,g,rfl⟩:=List.getElem_of_mem e;obtain⟨i,j,k,-,-,-,-,l,m,o,-,-,h⟩:=c.el P H[P] (Qq g);exact h
def aw.Kk:∀{l:List ah} {S:aw} {n:ah},n∈S.l->n∈(S.eC l).l
 |[],S,n,P=>P
 |e::l,S,n,P=>aw.Kk (l:=l) (S:=(S.add e).2) (by
  rcases S.gg e with⟨-,a⟩|⟨b,-⟩
  ·rw[a];exact P
  ·rw[b];exact(cN e S.l).mem_iff.2 (QJ _ P))
def wx{n:bN}(a:I.Cl)(b:I.n=n.aC.toNat)(P:List ah):eY n I P=I.eC P:=by
 unfold eY;rw[aw.Bl,<-b,a.Wg]
section
variable {w w' w0:World} {p:Nat} {F E T:RK} {cls:Nat->Nat} {h:kp} {c:bN} {self:Int} {X:bg} {evs:List ah} {ea:am} {en ec:Nat}
def jX.aC(n:jX c self):c.aC=(c.aC.toNat:Int)/\c.aC.toNat<=64/\1<=c.aC.toNat:=by
 have:=n.right;unfold fF within at this;simp only[QK,Zk]at this;omega
def Kl(s:cP w F cls p h c self X)(b0:jX c self)(hr:Row kY 96 w E ea en evs)(t:∀n,E n->n<w.heap.size)(hl:X.S.l.length+evs.length<=20000000):
  ba 136 #[LL p,.slice ea en ec] w (Ok λa0 w'=>∃L b,a0= LL L/\cM w' L b (eY c X.S evs)/\(∀n,b n->w.heap.size<=n)/\ai w w'):=by
 obtain⟨b1,b2,c6⟩:=b0.aC;have fN:=(s.at' 3).1;refine oV ⟨p,0,rfl,_,ae s.bC rfl,?_⟩;rw[b1];refine PC.ok (Gv b2) ?_;rintro _ w7 ⟨u,j,rfl,M,v,k⟩;have f:=cP.af s k;refine⟨_,rfl,p,0,rfl,_,ae f.bC rfl,PC.ok (vo (fN.af k) oM) ?_⟩;rintro _ c7 ⟨a2,x,c1,G,rfl,g,y,l⟩;have N:=M.aF;have c8:=g.aF;have z7:=k.size;have c9:=y.size;have O:=k.then y;refine⟨_,_,_,rfl,AI g KN (hr.af O) (λn P=>⟨by have:=t n P;omega,λz=>by have:=t n P;have:=l n (g.self n z);omega⟩) (by unfold aR;omega) (by unfold maxLen;omega) λa' c' m Q A B b3 _=>⟨_,_,_,rfl,?_⟩⟩;have b4:=A.len dC;have d0:=B.size;rw[QX]at b4;have a3:Row kY 96 m Q a' (x+en) (X.S.l++evs):=A.row dC (by rw[QX];unfold aR;omega);have R:=A.aF;have S:∀n,Q n->¬j n:=λn P o=>by
  have d:=v n o;have h6:=N n o;rcases b3 n P with f|f|f
  ·have:=l n f;omega
  ·have:=t n f;omega
  ·omega
 have a4:ai w m:=O.new B λn P=>.inr (by have:=l n (g.self n P);omega);have a5:=(M.af y).keep B λn P z=>by have:=N n P;have:=l n (g.self n z);omega
 refine⟨λT C w'=>∃(a:Nat) (b:RK),C=a/\a<=x+en/\T=x+en-a/\cM w' u b ((⟨c.aC.toNat,[]⟩:aw).eC ((X.S.l++evs).take a))/\(∀n,b n->j n\/m.heap.size<=n)/\aj j m w',⟨_,0,j,rfl,Qj _,rfl,a5,λn P=>.inl P,aj.refl _⟩,?_⟩;rintro T _ _ U ⟨a,b,rfl,hj,rfl,H,q,r⟩;have d1:=r.size;refine al.dec (λd2=>?_) (λd3=>?_)
 ·obtain⟨e,V⟩:∃e,(X.S.l++evs)[a]? =some e:=⟨_,Qq (by rw[QX];omega)⟩
  obtain⟨n,a1,es,ha,d4,d5,b5,I,J,K,rfl,b6,a7⟩:=(a3.keep r S).el a e V;refine⟨n,a1,ha,oM,oM,cu (es:=aI e I J K) (k:=10) (bh _ _ _ _) rfl (λC ht=>by rw[Qx];exact b5 C ht) (PA.mk λd6 b7 d7 b8=>aD (bh e I J K) b8 rfl λb9 c2 d8 c3=>au (bh e I J K) c3 ?_)⟩;have i:ai U b9:=b7.new c2 λn P=>.inr (by have P:n=U.heap.size:=P;omega);have W:=aw.nG ((X.S.l++evs).take a) ⟨c.aC.toNat,[]⟩;rw[Qy,QX]at W;simp only[ZQ]at W;refine PC.ok (vm (H.af i) (b6.af i) (λn P=>⟨by have:=R n P;have:=i.size;omega,λo=>?_⟩) a7 oM) ?_
  ·rcases q n o with d|d
   ·exact S n P d
   ·have:=R n P;omega
  rintro _ c4 ⟨rfl,Y,c5,Z⟩;refine⟨_,rfl,_,oM,a+1,Y,aq oM,oM,rfl,?_,λn P=>?_,(r.af i).new Z.keep λn P=>q n P⟩
  ·rw[Qw,V]
   show cM c4 u Y (aw.eC _ ((X.S.l++evs).take a++[e]));rw[aw.sk];exact c5
  ·rcases Z.new n P with d|d
   ·exact q n d
   ·have:=i.size;exact .inr oM
 ·rw[Qz (by rw[QX];omega)]at H
  exact Ok.mk ⟨u,b,rfl,H,λn P=>(q n P).elim (v n) λd=>oM,a4.new r λn P=>.inr (v n P)⟩

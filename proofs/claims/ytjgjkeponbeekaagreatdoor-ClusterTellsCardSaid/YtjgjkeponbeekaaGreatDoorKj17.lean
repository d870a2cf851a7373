import Derived.Test.YtjgjkeponbeekaaGreatDoorKj16
set_option maxHeartbeats 4000000
set_option linter.all false
set_option maxRecDepth 100000
open Go.IntKind renaming wrap→PP
namespace Go.Proofs.YtjgjkeponbeekaaGreatDoor
open Go.aw
abbrev oO:=List (Int×List ah)
def cY(n:oO):List Int:=n.map (·.1)
def cj(n:oO)(P:List ah):List ah:=(n.map (·.2)).flatten++P
structure cF (D:ak) (A:oO) (no:Int) (l:List ah) (k:Nat):Prop where
 tidy:Tidy D.files
 full:∀x∈A,an D.files (ay x.1)=some (dT (az x.2))
 last:∃s,an D.files (ay no)=some ⟨az l,s,true⟩/\(az (l.take k)).length<=s/\s<=(az l).length
 kl:k<=l.length
 WZ:an D.files bZ=some (dT (bQ (cY A++[no])))
 Ar:∀n∈cY A++[no],1<=n/\n<1000000000000
 zy:(cY A++[no]).Pairwise (·<·)
 evs:∀e∈cj A l,e.Ok/\e.aN.length<=64
 many:A.length+1<=64
structure EB (V:dw) (A:oO) (no:Int) (l:List ah):Prop where
 a_:V.a_=cY A++[no]
 bytes:V.bytes=((az l).length:Nat)
 next:no<V.next/\V.next<=1000000000000
def fB{n:Int}(d:cU (ay n)=true\/0<=n/\n<1000000000000):ay n≠bZ/\ay n≠aO:=by
 have b:bZ.data.toList.take 4≠dK:=by decide+kernel
 have c:aO.data.toList.take 4≠dK:=by decide+kernel
 have P:(ay n).data.toList.take 4=dK\/(ay n).data.toList=[]:=by
  unfold ay;rw[oE];unfold ax;split
  ·exact .inr rfl
  ·exact .inl (by simp[dK])
 refine⟨λa=>?_,λa=>?_⟩
 ·rw[a]at P
  rcases P with P|P
  ·exact b P
  ·revert P;decide+kernel
 ·rw[a]at P
  rcases P with P|P
  ·exact c P
  ·revert P;decide+kernel
def sv{a n:Int}(P:0<=a/\a<1000000000000)(b:ay n=ay a):n=a:=JF P.1 P.2 (NR b)
variable{w:ByteArray}{e:Int}{u:List UInt8}{F:List ah}{a c i:Nat}{Z f:UK}{d:bc}{b k:World}{W:bO}{b3:dw}
def ue(P:0<=e):cU (ay e)=true↔e<1000000000000:=by
 constructor
 ·intro n
  by_cases a:e<1000000000000
  ·exact a
  ·have:ay e=cH []:=by unfold ay ax;rw[Zx (.inr oM)]
   have b:cU (cH [])=false:=by decide+kernel
   rw[this,b]at n;cases n
 ·intro n;exact JG P n
def jY(n:List ah)(P:Nat):(az (n.take P)).length<=(az n).length:=by
 have a:=ZX P n
 conv=>rhs;rw[<-a,gB,QX]
 omega
def Cu(n:oO)(no:Int)(P a:List ah):cj (n++[(no,P)]) a=cj n P++a:=by simp[cj]
section
variable {D E:ak} {A:oO} {no:Int} {l x:List ah} {k j:Nat} {V:dw}
def cF.same(n:cF D A no l k)(c:Tidy E.files)(P:∀a∈cY A++[no],an E.files (ay a)=an D.files (ay a))(d:an E.files bZ=an D.files bZ):cF E A no l k:=
 ⟨c,λx b=>(P x.1 (ZV _ (Xk.2 ⟨x,b,rfl⟩))).trans (n.full x b),by
  obtain⟨e,f,g⟩:=n.last;exact⟨e,(P no (ZW _ (List.mem_singleton.2 rfl))).trans f,g⟩,n.kl,d.trans n.WZ,n.Ar,n.zy,n.evs,n.many⟩
def cF.files(P:cF D A no l k)(n:E.files=D.files):cF E A no l k:=P.same (by rw[n];exact P.tidy) (λ_ _=>by rw[n]) (by rw[n])
def cF.ug(n:cF D A no l k):1<=no/\no<1000000000000:=n.Ar no (ZW _ (List.mem_singleton.2 rfl))
def cF.VI(P:cF D A no l k):∀n∈A,ay n.1≠ay no:=λn b c=>by
 have d:=P.ug;have:=sv ⟨oM,d.2⟩ c;have a:=P.zy;rw[List.pairwise_append]at a;have:=a.2.2 n.1 (Xk.2 ⟨n,b,rfl⟩) no (List.mem_singleton.2 rfl);omega
def cF.put(n:cF D A no l k){P:List ah}{s c:Nat}(a:E.files=aJ D.files (ay no) ⟨az P,s,true⟩)(f:c<=P.length)(g:(az (P.take c)).length<=s)(h:s<=(az P).length)(i:∀b∈P,b.Ok/\b.aN.length<=64):cF E A no P c:=
 ⟨by rw[a];exact n.tidy.aJ _ _,λd e=>by rw[a,bl,Zq (by simpa using n.VI d e)];exact n.full d e,⟨s,by rw[a,bl];simp,g,h⟩,f,by
  have:=(fB (n:=no) (.inr (by have:=n.ug;omega))).1;rw[a,bl,Zq (by simpa using this.symm)];exact n.WZ,n.Ar,n.zy,λb a=>by
  rcases Q6.1 a with F|F
  ·exact n.evs b (ZV _ F)
  ·exact i b F,n.many⟩
def cF.Yz(P:cF D A no l k):∀n∈l,n.Ok/\n.aN.length<=64:=λn a=>P.evs n (ZW _ a)
def cF.uQ(n:EB V A no l):V.last=ay no:=by unfold dw.last;rw[n.a_];simp[ay]
def cF.mono(n:cF D A no l k)(P:j<=k):cF D A no l j:=by
 obtain⟨a,b,c,d⟩:=n.last;exact⟨n.tidy,n.full,⟨a,b,Xx (Cv P) c,d⟩,Xx P n.kl,n.WZ,n.Ar,n.zy,n.evs,n.many⟩
def EV(n:cF D A no l k):((D.sync (ay no)).1=0/\cF (D.sync (ay no)).2 A no l l.length)\/((D.sync (ay no)).1≠0/\cF (D.sync (ay no)).2 A no l k):=by
 rcases lK D (ay no)with⟨P,a⟩|⟨P,d,b,a⟩
 ·exact .inr ⟨P,n.files a⟩
 ·obtain⟨e,c,f,g⟩:=n.last
  rw[c]at b;cases b
  exact .inl ⟨P,n.put a (Q4 _) (by rw[List.take_length];exact Q4 _) (Q4 _) n.Yz⟩
def Cw(m:Tidy D.files)(o:0<=V.next):((bz V D).1≠0/\(bz V D).2.1=V/\Tidy (bz V D).2.2.files/\∀x,x≠ay V.next->x≠aO->an (bz V D).2.2.files x=an D.files x)\/
  ((bz V D).1=0/\V.next<1000000000000/\V.a_.length+1<=64/\an D.files (ay V.next)=none/\(bz V D).2.1=⟨V.size,V.a_++[V.next],0,V.next+1⟩/\Tidy (bz V D).2.2.files/\an (bz V D).2.2.files (ay V.next)=some (dT [])/\
   an (bz V D).2.2.files bZ=some (dT (bQ (V.a_++[V.next])))/\∀x,x≠ay V.next->x≠aO->x≠bZ->an (bz V D).2.2.files x=an D.files x):=by
 unfold bz;dsimp only;rw[show cH (ax V.next)=ay V.next from rfl];rcases jM D (ay V.next)with⟨d,f⟩|⟨d,f,w,p⟩
 ·rw[Zx d]
  exact .inl ⟨d,rfl,by show Tidy (D.create _).2.files;rw[f];exact m,λx _ _=>by show an (D.create (ay V.next)).2.files x=_;rw[f]⟩
 have q:=(ue o).1 f;obtain⟨y,nt⟩:=fB (n:=V.next) (.inr ⟨o,q⟩);rw[Zq (show¬(D.create (ay V.next)).1≠0 by simpa using d)];have g:uf (ay V.next) D (D.create (ay V.next)).2:=(uf.refl m).put p;have r:an (D.create (ay V.next)).2.files (ay V.next)=some ⟨[],0,false⟩:=by rw[p,bl];simp
 generalize(D.create (ay V.next)).2=P at g r;unfold lZ;dsimp only;rw[show cH (ax V.next)=ay V.next from rfl];have a:∀{F:ak},Tidy F.files->(∀x,x≠ay V.next->x≠aO->an F.files x=an D.files x)->Tidy (F.delete (ay V.next)).2.files/\∀x,x≠ay V.next->x≠aO->an (F.delete (ay V.next)).2.files x=an D.files x:=by
  intro F l s;rcases jH F (ay V.next)with e|e
  ·rw[e];exact⟨l,s⟩
  ·rw[e];exact⟨l.bK _,λx n b=>by rw[gu l,Zq (by simpa using n)];exact s x n b⟩
 rcases lK P (ay V.next)with⟨h,c⟩|⟨h,E,t,c⟩
 ·rw[Zx h]
  have:=a (F:=(P.sync (ay V.next)).2) (by rw[c];exact g.1) λx n _=>by rw[c];exact g.2 x n
  exact .inl ⟨h,rfl,this⟩
 rw[r]at t;cases t
 have i:uf (ay V.next) D (P.sync (ay V.next)).2:=g.put c;have u:an (P.sync (ay V.next)).2.files (ay V.next)=some (dT []):=by rw[c,bl];simp
 rw[Zq (show¬(P.sync (ay V.next)).1≠0 by simpa using h)];generalize(P.sync (ay V.next)).2=z at i u;rcases Lz i.1 (V.a_++[V.next])with⟨j,k⟩|⟨j,k,A,B,v⟩
 ·rw[Zx j]
  have:=a (F:=(bw z (V.a_++[V.next])).2) k.1 λx n b=>(k.2 x b).trans (i.2 x n);exact .inl ⟨j,rfl,this⟩
 ·rw[Zq (by simpa using j)]
  refine .inr ⟨rfl,q,by simpa using k,w,?_,A,(v _ nt y).trans u,B,λx n b C=>(v x b C).trans (i.2 x n)⟩;rw[wrap_i64 cw]
def cF.bz(b:cF D A no l l.length)(i:EB V A no l):((bz V D).1≠0/\(bz V D).2.1=V/\cF (bz V D).2.2 A no l l.length)\/
  ((bz V D).1=0/\(bz V D).2.1.size=V.size/\cF (bz V D).2.2 (A++[(no,l)]) V.next [] 0/\EB (bz V D).2.1 (A++[(no,l)]) V.next []/\(bz V D).2.1.next=V.next+1):=by
 have H:=b.ug;have I:=i.next;have q:∀n∈cY A++[no],n<V.next:=λn a=>by
  rcases Q6.1 a with P|P
  ·have j:=b.zy
   rw[List.pairwise_append]at j;have:=j.2.2 n P no (List.mem_singleton.2 rfl);omega
  ·have:=List.mem_singleton.1 P;omega
 have k:∀n∈cY A++[no],ay n≠ay V.next:=λn a d=>by
  have P:=b.Ar n a;have j:=q n a;have:=sv (a:=n) ⟨oM,P.2⟩ d.symm;omega
 have e:∀n∈cY A++[no],ay n≠bZ/\ay n≠aO:=λn a=>fB (.inr (by have:=b.Ar n a;omega));have u:bZ≠ay V.next:=λd=>by
  by_cases J:V.next<1000000000000
  ·exact(fB (n:=V.next) (.inr oM)).1 d.symm
  ·have v:ay V.next=cH []:=by unfold ay ax;rw[Zx (.inr oM)]
   rw[v]at d
   revert d;decide+kernel
 rcases Cw (V:=V) b.tidy oM with⟨m,r,g,o⟩|⟨m,r,g,o,f,w,x,s,t⟩
 ·exact .inl ⟨m,r,b.same g (λn a=>o _ (k n a) (e n a).2) (o _ u λd=>Nv d.symm)⟩
 ·rw[i.a_]at g s
  have y:A.length+1+1<=64:=by simpa[cY]using g
  have h:cY (A++[(no,l)])=cY A++[no]:=by simp[cY]
  refine .inr ⟨m,by rw[f],⟨w,λp z=>?_,⟨0,x,by simp[az],Qj _⟩,Q4 _,by rw[h];exact s,?_,?_,by rw[Cu,List.append_nil];exact b.evs,by simpa using y⟩,⟨by rw[f,h,i.a_],by rw[f];simp[az],by rw[f];simp only;omega⟩,by rw[f]⟩
  ·rcases Q6.1 z with P|P
   ·have c:p.1∈cY A++[no]:=ZV _ (Xk.2 ⟨p,P,rfl⟩)
    rw[t _ (k _ c) (e _ c).2 (e _ c).1];exact b.full p P
   ·rw[List.mem_singleton]at P
    subst P;have c:no∈cY A++[no]:=ZW _ (List.mem_singleton.2 rfl);obtain⟨B,C,E,K⟩:=b.last;rw[List.take_length]at E;have F:B=(az l).length:=oM
    show an _ (ay no)=_;rw[t _ (k _ c) (e _ c).2 (e _ c).1,C,F];rfl
  ·rw[h]
   intro n a;rcases Q6.1 a with P|P
   ·exact b.Ar n P
   ·have:=List.mem_singleton.1 P;omega
  ·rw[h,List.pairwise_append]
   exact⟨b.zy,List.pairwise_singleton _ _,λn a L c=>by have:=List.mem_singleton.1 c;have:=q n a;omega⟩
def cF.begin(c:cF D A no l k)(P:EB V A no l):((aH V D).1≠0/\(aH V D).2.1=V/\cF (aH V D).2.2 A no l k)\/
  ((aH V D).1=0/\(aH V D).2.1.size=V.size/\cF (aH V D).2.2 (A++[(no,l)]) V.next [] 0/\EB (aH V D).2.1 (A++[(no,l)]) V.next []/\(aH V D).2.1.next=V.next+1):=by
 have d:¬V.a_=[]:=by rw[P.a_];simp
 have e:aH V D=if(D.sync (ay no)).1≠0 then((D.sync (ay no)).1,V,(D.sync (ay no)).2)else Go.Proofs.YtjgjkeponbeekaaGreatDoor.bz V (D.sync (ay no)).2:=by
  unfold aH;rw[Zq d,cF.uQ P]
 rw[e];rcases EV c with⟨n,a⟩|⟨n,a⟩
 ·rw[Zq (by simpa using n)]
  rcases a.bz P with⟨f,g,h⟩|b
  ·exact .inl ⟨f,g,h.mono c.kl⟩
  ·exact .inr b
 ·rw[Zx n];exact .inl ⟨n,rfl,a⟩
end
def bI(n:List ah):List UInt8×Int:=if n.any eS then([],3)else(az n,0)
def LQ(V:Laid b)(C:Row lb 96 b f d a F)(W:∀n,f n->n<b.heap.size)(hl:F.length<=20000000):
  be 142 #[.slice d a c] b (Ok λX q=>∃E H I l,X= .tuple #[.slice E H I,WP (bI F).2]/\aU gw 5 l q E H I (bI F).1/\ai b q/\∀n,l n->b.heap.size<=n):=by
 have hn:=C.len;refine xC ⟨λJ K L N O q=>∃(P:Nat) (l:UK),O=P/\P<=a/\J=a-P/\(∀e∈F.take P,e.Ok/\e.aN.length<=64)/\(az (F.take P)).length<=675*P/\aU gw 5 l q K L N (az (F.take P))/\ai b q/\∀n,l n->b.heap.size<=n,
  ⟨_,0,λ_=>False,rfl,Qj _,rfl,sM,by simp[az],aU.nil b,aj.refl _,λ_ u=>u.elim⟩,?_⟩
 rintro J K L N O _ Y ⟨P,l,rfl,hj,rfl,v,Z,o,m,w⟩;refine al.dec (λa9=>?_) (λb0=>?_)
 ·obtain⟨n,x,e,es,rfl,_,_,Q,j,a1,n1,c1,rfl,hd,s⟩:=(C.af m).Iq (i:=P) oM
  have g:=λi (hi:i<10)=>j i hi;refine⟨n,x,rfl,oM,oM,_,_,_,_,_,_,_,_,_,_,_,_,g 0 dC,g 1 dC,g 2 dC,g 3 dC,g 4 dC,g 5 dC,g 6 dC,g 7 dC,g 8 dC,g 9 dC,PA.mk λw2 k2 s2 g2=>?_⟩;refine storeAll (aI e a1 n1 c1) g2 rfl λw3 k3 s3 h=>?_;have p:ai Y w3:=k2.new k3 λn k=>.inr oM;refine⟨_,_,_,_,_,_,_,_,_,_,_,_,ae h rfl,ae h rfl,ae h rfl,ae h rfl,ae h rfl,ae h rfl,ae h rfl,ae h rfl,ae h rfl,ae h rfl,?_⟩;refine PC.ok (EC (V.af (m.then p)) (hd.af p) s λn k=>by have:=W n k;have:=(m.then p).size;omega) ?_;rintro _ R ⟨a4,n4,c4,F4,rfl,r,S,T⟩
  by_cases t:e.aN.length<=64
  ·have y:=rp s t
   rw[y]at r⊢;have b1:=Nw s t;refine⟨_,_,_,_,rfl,al.eK (λj=>Zz rfl j) (λ_=>?_)⟩;have z:=p.then S;have a0:Row gw 1 R F4 a4 n4 (om e):=r.row (bytes:=1) dC (by unfold aR;dsimp only;omega);have b2:=z.size;have b3:=p.size;refine Ay (o.af z) tY a0 (λe=>r.OW e) (λn k=>⟨r.aF n k,λj=>by have:=o.aF n (o.self n j);have:=T n k;omega⟩) ce (by unfold maxLen;omega) λb4 c5 w5 F5 a3 a6 a7 _=>?_;have A:F.take (P+1)=F.take P++[e]:=by rw[Qw,Q];rfl
   refine⟨_,_,_,rfl,a-(P+1),oM,P+1,F5,aq oM,oM,rfl,?_,?_,?_,(m.then z).new a6 λn k=>.inr (by have:=w n (o.self n k);omega),?_⟩
   ·rw[A]
    intro a2 B;rcases Q6.1 B with M|M
    ·exact v a2 M
    ·simp at M;subst M;exact⟨s,t⟩
   ·rw[A,pt];simp;omega
   ·rw[A,pt];exact a3
   ·intro n k
    have:=m.size;rcases a7 n k with M|M|M
    ·exact w n M
    ·have:=T n M;omega
    ·omega
  ·have y:=yz t
   rw[y]at r⊢;refine⟨_,_,_,_,rfl,al.eK (λ_=>?_) (λj=>Zz j dC)⟩;have a5:F.any eS=true:=List.any_eq_true.2 ⟨e,QZ Q,by unfold eS;simp;omega⟩;rw[show bI F=([],3) by unfold bI;rw[Zx a5]];exact Ok.mk ⟨none,0,0,λ_=>False,rfl,aU.nil R,(m.then p).then S,λ_ u=>u.elim⟩
 ·obtain rfl:P=a:=oM
  rw[Qz oM]at v Z o;have a8:F.any eS=false:=by
   rw[<-Bool.not_eq_true];intro j;obtain⟨e,he,U⟩:=List.any_eq_true.1 j;have:=(v e he).2;unfold eS at U;simp at U;omega
  rw[show bI F=(az F,0) by unfold bI;rw[Zq (by simp[a8])]];exact Ok.mk ⟨_,_,_,l,rfl,o,m,w⟩
def bC(no:Int)(d:List UInt8)(D:ak):Int×ak:=
 let n:=cH (ax no)
 let P:=D.create n
 if P.1≠0 then(P.1,P.2)else
 let a:=P.2.append n d
 if a.1≠0 then(a.1,(a.2.delete n).2)else
 let b:=a.2.sync n
 if b.1≠0 then(b.1,(b.2.delete n).2)else
 let c:=bw b.2 [no]
 (c.1,if c.1≠0 then(c.2.delete n).2 else c.2)
def OX{D:ak}{no:Int}(hL:Laid b)(L:aY b k a D f)(R:aM no)(e:Row gw 1 k Z d c u)(c0:d=none->c=0/\i=0)(b2:∀n,Z n->f n):
  be 143 #[RK a,WP no,.slice d c i] k (Ok (oq b k a f (bC no u D))):=by
 have e2:=L.gr.size;have S:∀n,f n->n<k.heap.size:=by obtain⟨a3,f1,f2,T,U⟩:=L;exact U
 refine zK (PA.mk λx k1 s1 g1=>PA.mk λw2 V s2 g2=>PC.ok (km (hL.af ((L.gr.then k1).then V)) R) ?_);rintro _ W ⟨rfl,M⟩;have z3:=M.size;refine⟨_,rfl,PA.mk λw4 X s4 g4=>PS.mk g4 sM λY k5 s5 g5=>?_⟩
 let s:UK:=λn=>f n\/(n=k.heap.size\/n=x.heap.size\/n=W.heap.size)
 have b3:ai k Y:=((((k1.then V).then M).then X)).new k5 λn e=>.inr oM;have d0:aY b Y a D s:=L.add b3 λn e=>by omega
 let y:World->Int->Prop:=λh l=>h.heap[k.heap.size]? =some (.cells #[RK a] 93 (0,0))/\h.heap[x.heap.size]? =some (.cells #[WP l] 34 (0,0))/\h.heap[W.heap.size]? =some (.cells #[.string (cH (ax no))] 9 (0,0))
 have C5:y Y 0:=⟨k5.get (X.get (M.get (V.get g1 id) id) id) oM,k5.get (X.get (M.get g2 id) id) oM,g5⟩
 have g:∀{h o:World} {l:Int},y h l->aj (dW s) h o->y o l:=λm t=>
  ⟨t.get m.1 λp=>p (.inr (.inl rfl)),t.get m.2.1 λp=>p (.inr (.inr (.inl rfl))),t.get m.2.2 λp=>p (.inr (.inr (.inr rfl)))⟩
 have H:∀{h o:World},aj (dW f) k h->aj (dW s) h o->aj (dW f) k o:=λd n=>d.then (n.mono λn _ e q=>e (.inl q));have P:∀{h:World} {l B:Int} {v:ak} {κ:ba},y h l->aY b h a v s->aj (dW f) k h->(∀o,y o B->aY b o a v s->aj (dW f) k o->aj (·=x.heap.size) h o->κ o)->PS h ⟨x.heap.size,0,none⟩ (WP B) κ:=by
  intro h l B v κ m hN t a0;have h1:=aA m.2.1;refine PS.mk m.2.1 sM λo z e3 d1=>a0 o ⟨z.get m.1 oM,d1,z.get m.2.2 oM⟩ ?_ (t.then (z.mono λn _ e q=>by have:=S n q;omega)) z;obtain⟨a3,f1,f2,T,U⟩:=hN;exact⟨a3,f1.keep z λn e l=>(T n e).2 (.inr (.inr (.inl l))),f2.new z λn e=>.inr oM,T,λn e=>Qk (U n e) z.size⟩
 have j:∀{I:Int×ak} (l:Int) (v:ak) (h:World),aY b h a v s->aj (dW f) k h->y h l->I=(l,if l≠0 then(v.delete (cH (ax no))).2 else v)->
   Lv LL (λb4=>∃b5:Int,b4.cell? ⟨x.heap.size,0,none⟩=some (WP b5)/\Ok (oq b k a f I) (.returned (WP b5)) b4) (λch h=>Ok (oq b k a f I) (.panicked ch) h)
    ([{target:=.fn (.func 212) #[RK x.heap.size,RK k.heap.size,RK W.heap.size],args:= #[]}]:List Deferred) .returning h:=by
  intro I l v h p t m hr;refine Lv.one sM kR (CallsD.mono (uo (R:=λB J=>B= .returned (.tuple #[])/\∃b6:Int,J.cell? ⟨x.heap.size,0,none⟩=some (WP b6)/\Ok (oq b k a f I) (.returned (WP b6)) J) ⟨_,ae m.2.1 rfl,al.eK (λr=>⟨_,ae m.1 rfl,_,ae m.2.2 rfl,PC.ok p.delete ?_⟩) (λA=>⟨rfl,_,ae m.2.1 rfl,Ok.mk ?_⟩)⟩) ?_)
  ·rintro _ wb ⟨rfl,d2,kb⟩
   have d3:=g m kb;refine⟨_,rfl,rfl,_,ae d3.2.1 rfl,Ok.mk ?_⟩;rw[hr,Zx r];exact⟨rfl,d2.mono λn e=>.inl e,H t kb⟩
  ·rw[hr,Zq (by simpa using A)]
   exact⟨rfl,p.mono λn e=>.inl e,t⟩
  ·rintro B u' J ⟨rfl,rfl,S⟩
   exact Lv.ret rfl S
 refine⟨_,ae C5.1 rfl,_,ae C5.2.2 rfl,PC.ok d0.create ?_⟩;rintro _ w6 ⟨rfl,b7,k6⟩;have C6:=g C5 k6;have d4:=H (ai.keep b3) k6;have hW:bC no u D=if(D.create (cH (ax no))).1≠0 then((D.create (cH (ax no))).1,(D.create (cH (ax no))).2)else
   if((D.create (cH (ax no))).2.append (cH (ax no)) u).1≠0 then(((D.create (cH (ax no))).2.append (cH (ax no)) u).1,(((D.create (cH (ax no))).2.append (cH (ax no)) u).2.delete (cH (ax no))).2)else
   if((((D.create (cH (ax no))).2.append (cH (ax no)) u).2).sync (cH (ax no))).1≠0 then(((((D.create (cH (ax no))).2.append (cH (ax no)) u).2).sync (cH (ax no))).1,(((((D.create (cH (ax no))).2.append (cH (ax no)) u).2).sync (cH (ax no))).2.delete (cH (ax no))).2)else
   ((bw ((((D.create (cH (ax no))).2.append (cH (ax no)) u).2).sync (cH (ax no))).2 [no]).1,if(bw ((((D.create (cH (ax no))).2.append (cH (ax no)) u).2).sync (cH (ax no))).2 [no]).1≠0 then((bw ((((D.create (cH (ax no))).2.append (cH (ax no)) u).2).sync (cH (ax no))).2 [no]).2.delete (cH (ax no))).2 else(bw ((((D.create (cH (ax no))).2.append (cH (ax no)) u).2).sync (cH (ax no))).2 [no]).2):=rfl
 rw[hW];generalize D.create (cH (ax no))=cr at b7⊢;refine⟨_,rfl,P C6 b7 d4 λJ C b8 a5 k7=>⟨_,ae C.2.1 rfl,al.eK (λr=>?_) (λA=>?_)⟩⟩
 ·refine⟨_,ae C.2.1 rfl,P C b8 a5 λw8 C8 N a6 k8=>⟨_,ae C8.2.1 rfl,Ok.mk ?_⟩⟩
  rw[Zx r];exact⟨rfl,N.mono λn e=>.inl e,a6⟩
 rw[Zq (by simpa using A)];have d5:Row gw 1 J Z d c u:=e.keep a5 λn e p=>p (b2 n e);refine⟨_,ae C.1 rfl,_,ae C.2.2 rfl,PC.ok (b8.append d5 c0 λn e=>.inr (.inl (b2 n e))) ?_⟩;rintro _ w8 ⟨rfl,N,k8⟩;have C8:=g C k8;have a6:=H a5 k8;generalize cr.2.append (cH (ax no)) u=ap at N⊢;refine⟨_,rfl,P C8 N a6 λw9 E b9 c1 k9=>⟨_,ae E.2.1 rfl,al.eK (λr=>?_) (λA=>?_)⟩⟩
 ·refine⟨_,ae E.2.1 rfl,P E b9 c1 λc2 a7 O a1 a8=>?_⟩
  rw[Zx r];exact j _ _ c2 O a1 a7 (by rw[Zx r])
 rw[Zq (by simpa using A)];refine⟨_,ae E.1 rfl,_,ae E.2.2 rfl,PC.ok b9.sync ?_⟩;rintro _ c2 ⟨rfl,O,a8⟩;have a7:=g E a8;have a1:=H c1 a8;generalize ap.2.sync (cH (ax no))=sy at O⊢;refine⟨_,rfl,P a7 O a1 λa9 K a4 b1 e4=>⟨_,ae K.2.1 rfl,al.eK (λr=>?_) (λA=>?_)⟩⟩
 ·refine⟨_,ae K.2.1 rfl,P K a4 b1 λF b0 a2 c3 Q=>?_⟩
  rw[Zx r];exact j _ _ F a2 c3 b0 (by rw[Zx r])
 rw[Zq (by simpa using A)];refine⟨_,ae K.1 rfl,PA.mk λF Q e5 c4=>?_⟩;have a2:aY b F a sy.2 (λn=>s n\/n=a9.heap.size):=a4.add Q λn e=>by subst e;exact⟨Q4 _,aA c4⟩
 have c5:Row aP 8 F (·=a9.heap.size) (UV a9.heap.size) 1 [no]:=Row.lit c4 [no] rfl (λc6 q=>by simp at q;subst q;exact R) (by unfold aR;simp);refine PC.ok (a2.bw hL.qg c5 (λc6 q=>by simp at q;subst q;exact R) λn e=>.inr (.inr e)) ?_;rintro _ d6 ⟨rfl,c7,d7⟩;have w:aj (dW s) F d6:=d7.mono λn _ e hy=>e (.inl hy);have b0:y F sy.1:=g K (ai.keep Q);have d8:=g b0 w;have c8:=H (b1.af Q) w;exact⟨_,rfl,P d8 (c7.mono λn e=>.inl e) c8 λd9 e0 c9 e1 e6=>j _ _ d9 c9 e1 e0 rfl⟩
def jL:List Int->ak->ak
 |[],D=>D
 |no::n,D=>if(D.delete (ay no)).1≠0 then(D.delete (ay no)).2 else jL n (D.delete (ay no)).2
def aQ(n:dw)(D:ak)(P:List ah)(a:Int):pw:=
 if(bI P).2≠0 then⟨(bI P).2,[],n,D⟩else
 if(bC n.next (bI P).1 D).1≠0 then⟨(bC n.next (bI P).1 D).1,[],n,(bC n.next (bI P).1 D).2⟩else
 aS (jL n.a_ (bC n.next (bI P).1 D).2) a
def LR(c g:World)(d h:Nat)(i:dw)(a:UK)(P:pw)(e:Value)(b:World):Prop:=
 ∃G,jy b d h G i/\(∀n,G n->c.heap.size<=n/\¬a n)/\aj (dW a) g b/\
  ((P.no≠0/\e= .tuple #[.pointer none,WP P.no]/\aY c b d P.D (λn=>a n\/G n))\/
   (P.no=0/\∃f,e= .tuple #[RK f,WP 0]/\cI c b d f P.V P.D (λn=>a n\/G n)))
def IY{D:ak}{U a2:Nat}(z:Laid b)(V:cI b k a c b3 D f)(W:Row lb 96 k Z d U F)(a4:∀n,Z n->n<k.heap.size)(hl:F.length<=20000000):
  be 87 #[RK a,RK c,.slice d U a2,WP e] k (Ok (LR b k a c b3 f (aQ b3 D F e))):=by
 obtain⟨G,I,u,A⟩:=id V;have c0:=u.many;refine vA (PC.ok (LQ (z.af V.gr) W a4 hl) ?_);rintro _ w1 ⟨a5,n1,c1,F1,rfl,J,p,b5⟩;have hz:∀n,(f n\/G n)->n<k.heap.size:=by obtain⟨c4,f1,f2,f3,f4⟩:=I;exact f4
 refine⟨_,_,_,_,rfl,al.eK (λh=>Ok.mk ?_) (λq=>PC.ok (RQ (u.af p)) ?_)⟩
 ·rw[show aQ b3 D F e=⟨(bI F).2,[],b3,D⟩ by unfold aQ;rw[Zx h]]
  exact⟨G,u.af p,A,ai.keep p,.inl ⟨h,rfl,I.af p⟩⟩
 rintro _ _ ⟨rfl,rfl⟩;have b6:aY b w1 a D (λn=>(f n\/G n)\/F1 n):=I.add p λn P=>⟨b5 n P,J.aF n P⟩
 have d1:(bI F).1.length<=13500000000:=by
  unfold bI;split
  ·simp
  ·rename_i b8
   have:∀m∈F,m.Ok/\m.aN.length<=64:=λm X=>by
    obtain⟨i,hi⟩:=List.mem_iff_getElem?.1 X;obtain⟨n,v,es,-,-,-,-,a5,n1,c1,-,-,b9⟩:=W.el i m hi;refine⟨b9,?_⟩;have:¬eS m=true:=λK=>b8 (List.any_eq_true.2 ⟨m,X,K⟩);unfold eS at this;simp at this;omega
   have:=IZ this;show(az F).length<=_;omega
 refine⟨_,rfl,PC.ok (OX z b6 u.BL (J.row (bytes:=1) dC ce) (λm=>J.OW m) λn P=>.inr P) ?_⟩;rintro _ Y ⟨rfl,c2,k2⟩;have L:aY b Y a (bC b3.next (bI F).1 D).2 (λn=>f n\/G n):=c2.mono λn P=>.inl P;have M:=(u.af p).keep k2 λn P j=>j (.inl (.inr P));have a6:aj (dW f) k Y:=(ai.keep p).then (k2.mono λn _ P l=>P (.inl (.inl l)));have hC:aQ b3 D F e=if(bC b3.next (bI F).1 D).1≠0 then⟨(bC b3.next (bI F).1 D).1,[],b3,(bC b3.next (bI F).1 D).2⟩else aS (jL b3.a_ (bC b3.next (bI F).1 D).2) e:=by
  unfold aQ;rw[Zq (by simpa using q)]
 rw[hC];generalize bC b3.next (bI F).1 D=w at L⊢;refine⟨_,rfl,al.eK (λh=>Ok.mk ?_) (λq=>?_)⟩
 ·rw[Zx h]
  exact⟨G,M,A,a6,.inl ⟨h,rfl,L⟩⟩
 rw[Zq (by simpa using q)];refine⟨λo=>aY b o a (jL b3.a_ w.2) (λn=>f n\/G n)/\jy o a c G b3/\aj (dW f) k o,PC.ok (GV M) ?_,?_⟩
 ·rintro _ w3 ⟨a3,s,c3,B,rfl,N,O,c5⟩
  have d2:=N.len dC;have Q:aY b w3 a w.2 (λn=>(f n\/G n)\/B n):=L.add O λn P=>⟨c5 n P,N.aF n P⟩
  refine⟨_,_,_,rfl,λa0 a1 o=>∃(g:Nat) (r:ak),a1=g/\g<=s/\a0=s-g/\jL b3.a_ w.2=jL (b3.a_.drop g) r/\aY b o a r (λn=>(f n\/G n)\/B n)/\aU aP 3 B o a3 s c3 b3.a_/\jy o a c G b3/\aj (dW f) k o,
   ⟨_,0,w.2,rfl,Qj _,rfl,rfl,Q,N,M.af O,a6.af O⟩,?_⟩
  rintro a0 a1 _ w4 ⟨g,r,rfl,hj,rfl,C,x,R,a7,a8⟩;refine al.dec (λd3=>?_) (λd4=>?_)
  ·have c6:Row aP 8 w4 B a3 s b3.a_:=R.row dC ce
   obtain⟨n,v,t,rfl,l,c7,K⟩:=c6.nE (i:=g) oM;refine⟨n,v,rfl,oM,oM,t,K,PC.ok (km (z.af x.gr) c7) ?_⟩;rintro _ w5 ⟨rfl,E⟩;refine⟨_,rfl,PC.ok (x.af E).delete ?_⟩;rintro _ w6 ⟨rfl,S,T⟩;have b4:b3.a_.drop g=t::b3.a_.drop (g+1):=by
    obtain⟨c8,rfl⟩:=Qv.1 l;exact X4 c8
   rw[b4]at C;have H:jL b3.a_ w.2=if(r.delete (cH (ax t))).1≠0 then(r.delete (cH (ax t))).2 else jL (b3.a_.drop (g+1)) (r.delete (cH (ax t))).2:=C
   have a9:=(a7.af E).keep T λn P j=>j (.inl (.inr P));have b0:aj (dW f) k w6:=(a8.af E).then (T.mono λn _ P l=>P (.inl (.inl l)));have c9:=(R.af E).keep T λn P j=>j (.inr P);generalize r.delete (cH (ax t))=b7 at H S⊢;refine⟨_,rfl,al.eK (λh=>?_) (λq=>?_)⟩
   ·rw[H,Zx h]
    exact⟨S.mono λn P=>.inl P,a9,b0⟩
   ·rw[Zq (by simpa using q)]at H
    exact⟨s-(g+1),oM,g+1,b7.2,aq oM,oM,rfl,H,S,c9,a9,b0⟩
  ·obtain rfl:g=s:=oM
   rw[List.drop_of_length_le oM]at C;rw[C];exact⟨x.mono λn P=>.inl P,a7,a8⟩
 ·rintro _ w3 ⟨Q,b1,b2⟩
  refine PC.ok (I_ (size:=e) z Q) ?_;rintro _ w4 (⟨h,rfl,x,y⟩|⟨q,q2,d5,n4,d6,G4,rfl,R,d0,y,-,-,-⟩)
  ·exact⟨_,_,_,_,_,rfl,Ok.mk ⟨G,b1.keep y λn P j=>j (.inr P),A,b2.then (y.mono λn _ P l=>P (.inl l)),.inl ⟨h,rfl,x⟩⟩⟩
  ·exact⟨_,_,_,_,_,rfl,Ok.mk ⟨G,b1.keep y λn P j=>j (.inr P),A,b2.then (y.mono λn _ P l=>P (.inl l)),.inr ⟨q,q2,rfl,d0.mono λn P=>.inl P⟩⟩⟩
def qV{l:List ah}(P:∀n∈l,n.Ok/\n.aN.length<=64):bE (az l)=(l,(az l).length):=by
 have:=yQ P [];rw[List.append_nil,rY]at this;simpa using this
def Fw(n:List ah)(P:Nat):(az n).take (az (n.take P)).length=az (n.take P):=by
 conv=>lhs;rw[<-ZX P n,gB]
 rw[show(List.take P (List.take P n++List.drop P n))=n.take P by rw[ZX]];exact List.take_left
def xW(n:0<=e/\e<1000000000000):ig (ay e)=(e,true):=by
 unfold ig ay;rw[oE,pH n.1 n.2];simp;omega
def UN(n:Int)(P:ByteArray):n<=eH n P:=by unfold eH;split<;>omega
def NS:∀(P:List ByteArray) (n:Int),n<=P.foldl eH n
 |[],n=>Int.le_refl n
 |s::P,n=>Int.le_trans (UN n s) (NS P _)
def JH:∀(n:List ByteArray) (b:Int) {P:ByteArray},P∈n->(ig P).2=true->(ig P).1+1<=n.foldl eH b
 |d::n,b,P,a,c=>by
  rcases Q2.1 a with rfl|a
  ·refine Int.le_trans ?_ (NS n _)
   unfold eH;rw[Zx c];omega
  ·exact JH n _ a c
def Jo{D:ak}(n:0<=e/\e<1000000000000)(a:(an D.files (ay e)).isSome=true):e<iD D:=by
 have P:=JH D.list 1 (Fy.2 a) (by rw[xW n]);rw[xW n]at P;unfold iD tJ;simp only at P;omega
section
variable {D E:ak} {A:oO} {no:Int} {l x:List ah} {k j n s:Nat} {V:dw}
def Jq(A:oO)(k:Nat):Nat:=((A.map (·.2)).flatten).length+k
def XR(n:Int)(A:oO):Prop:=∀P∈A,n<=((az P.2).length:Nat)
def yK(h:cF D A no l k)(i:EB V A no l)(I:∀c∈x,c.Ok)(T:x.length<=20000000)(J:D.Ok)(m:XR V.size A):
  ∃P a b d,cF (aE V D x).2.2 P a b d/\EB (aE V D x).2.1 P a b/\Jq A k<=Jq P d/\cj P b=(if(aE V D x).1=0 then cj A l++x else cj A l)/\(aE V D x).2.1.size=V.size/\XR V.size P/\
   ((P=A/\a=no/\(aE V D x).2.1.next=V.next)\/(P=A++[(no,l)]/\a=V.next/\(aE V D x).2.1.next=V.next+1)):=by
 unfold aE
 by_cases u:x.any eS=true
 ·rw[Zx u]
  exact⟨A,no,l,k,h,i,Q4 _,rfl,rfl,m,.inl ⟨rfl,rfl,rfl⟩⟩
 rw[Zq u]
 by_cases v:x=[]
 ·rw[Zx v]
  exact⟨A,no,l,k,h,i,Q4 _,by rw[Zx rfl,v,List.append_nil],rfl,m,.inl ⟨rfl,rfl,rfl⟩⟩
 rw[Zq v];have B:∀c∈x,c.Ok/\c.aN.length<=64:=λc o=>⟨I c o,by
  have:¬eS c=true:=λf=>u (List.any_eq_true.2 ⟨c,o,f⟩);unfold eS at this;simp at this;omega⟩
 have U:=IZ B;have K:(az l).length<=262144:=by
  obtain⟨s,w,_⟩:=h.last;exact J.len (cy w)
 have g:∀(n:Int×dw×ak) (P:oO) (a:Int) (b:List ah) (d:Nat),n.1=0->cF n.2.2 P a b d->EB n.2.1 P a b->(az b).length<=262144->Jq A k<=Jq P d->cj P b=cj A l->n.2.1.size=V.size->XR V.size P->
   ((P=A/\a=no/\n.2.1.next=V.next)\/(P=A++[(no,l)]/\a=V.next/\n.2.1.next=V.next+1))->
   ∃P a b d,cF (if n.1≠0 then n else if(n.2.2.append n.2.1.last (az x)).1≠0 then((n.2.2.append n.2.1.last (az x)).1,n.2.1,(n.2.2.append n.2.1.last (az x)).2)else(0,⟨n.2.1.size,n.2.1.a_,PP .i64 (n.2.1.bytes+((az x).length:Nat)),n.2.1.next⟩,(n.2.2.append n.2.1.last (az x)).2)).2.2 P a b d/\
    EB (if n.1≠0 then n else if(n.2.2.append n.2.1.last (az x)).1≠0 then((n.2.2.append n.2.1.last (az x)).1,n.2.1,(n.2.2.append n.2.1.last (az x)).2)else(0,⟨n.2.1.size,n.2.1.a_,PP .i64 (n.2.1.bytes+((az x).length:Nat)),n.2.1.next⟩,(n.2.2.append n.2.1.last (az x)).2)).2.1 P a b/\Jq A k<=Jq P d/\
    cj P b=(if(if n.1≠0 then n else if(n.2.2.append n.2.1.last (az x)).1≠0 then((n.2.2.append n.2.1.last (az x)).1,n.2.1,(n.2.2.append n.2.1.last (az x)).2)else(0,⟨n.2.1.size,n.2.1.a_,PP .i64 (n.2.1.bytes+((az x).length:Nat)),n.2.1.next⟩,(n.2.2.append n.2.1.last (az x)).2)).1=0 then cj A l++x else cj A l)/\
    (if n.1≠0 then n else if(n.2.2.append n.2.1.last (az x)).1≠0 then((n.2.2.append n.2.1.last (az x)).1,n.2.1,(n.2.2.append n.2.1.last (az x)).2)else(0,⟨n.2.1.size,n.2.1.a_,PP .i64 (n.2.1.bytes+((az x).length:Nat)),n.2.1.next⟩,(n.2.2.append n.2.1.last (az x)).2)).2.1.size=V.size/\XR V.size P/\
    ((P=A/\a=no/\(if n.1≠0 then n else if(n.2.2.append n.2.1.last (az x)).1≠0 then((n.2.2.append n.2.1.last (az x)).1,n.2.1,(n.2.2.append n.2.1.last (az x)).2)else(0,⟨n.2.1.size,n.2.1.a_,PP .i64 (n.2.1.bytes+((az x).length:Nat)),n.2.1.next⟩,(n.2.2.append n.2.1.last (az x)).2)).2.1.next=V.next)\/
     (P=A++[(no,l)]/\a=V.next/\(if n.1≠0 then n else if(n.2.2.append n.2.1.last (az x)).1≠0 then((n.2.2.append n.2.1.last (az x)).1,n.2.1,(n.2.2.append n.2.1.last (az x)).2)else(0,⟨n.2.1.size,n.2.1.a_,PP .i64 (n.2.1.bytes+((az x).length:Nat)),n.2.1.next⟩,(n.2.2.append n.2.1.last (az x)).2)).2.1.next=V.next+1)):=by
  intro n P a b d L j e W C o E F f;rw[Zq (by simpa using L)];rw[cF.uQ e];rcases lJ n.2.2 (ay a) (az x)with⟨r,y⟩|⟨r,X,p,y⟩
  ·rw[Zx r]
   exact⟨P,a,b,d,j.files y,e,C,by rw[Zq r];exact o,E,F,f⟩
  ·rw[Zq (by simpa using r)]
   obtain⟨s,w,M,Y⟩:=j.last;rw[w]at p;cases p
   refine⟨P,a,b++x,d,j.put (s:=s) (by rw[y,gB]) (by have:=j.kl;simp;omega) ?_ (by rw[gB];simp;omega) ?_,⟨e.a_,?_,e.next⟩,C,?_,E,F,f⟩
   ·rw[List.take_append_of_le_length j.kl];exact M
   ·intro c N
    rcases Q6.1 N with H|H
    ·exact j.Yz c H
    ·exact B c H
   ·show PP .i64 _=_
    rw[e.bytes,wrap_i64 cw,gB];simp
   ·rw[Zx rfl,<-o];simp[cj]
 dsimp only
 by_cases f:V.size<=V.bytes
 ·rw[Zx f]
  rcases h.begin i with⟨t,q,z⟩|⟨t,q,z,O,Q⟩
  ·rw[Zx t]
   exact⟨A,no,l,k,z,by rw[q];exact i,Q4 _,by rw[Zq t],by rw[q],m,.inl ⟨rfl,rfl,by rw[q]⟩⟩
  ·refine g _ (A++[(no,l)]) V.next [] 0 t z O (by simp[az]) ?_ (by rw[Cu,List.append_nil]) q ?_ (.inr ⟨rfl,rfl,Q⟩)
   ·have:=h.kl;unfold Jq;simp;omega
   ·intro R S
    rcases Q6.1 S with H|H
    ·exact m R H
    ·rw[List.mem_singleton]at H;subst H
     rw[i.bytes]at f;exact f
 ·rw[Zq f]
  exact g (0,V,D) A no l k rfl h i K (Q4 _) rfl rfl m (.inl ⟨rfl,rfl,rfl⟩)
def Hr(s:cg D)(t:Tidy D.files)(a:0<=V.next/\V.next<1000000000000)(b:an D.files (ay V.next)=none):
  cg (bz V D).2.2/\((bz V D).1=0\/(bz V D).1=3\/(bz V D).1=12)/\((bz V D).1≠0->an (bz V D).2.2.files (ay V.next)=none):=by
 obtain⟨x,nt⟩:=fB (n:=V.next) (.inr a);unfold bz;dsimp only;rw[show cH (ax V.next)=ay V.next from rfl];obtain⟨c,d⟩:=s.create (ay V.next);have d:=d ((ue a.1).2 a.2) b;rcases jM D (ay V.next)with⟨e,k⟩|⟨e,k,y,l⟩
 ·rw[Zx e]
  exact⟨c,d.imp id .inr,λ_=>by show an (D.create _).2.files _=none;rw[k];exact b⟩
 rw[Zq (show¬(D.create (ay V.next)).1≠0 by simpa using e)];have f:uf (ay V.next) D (D.create (ay V.next)).2:=(uf.refl t).put l;have m:an (D.create (ay V.next)).2.files (ay V.next)=some ⟨[],0,false⟩:=by rw[l,bl];simp
 generalize(D.create (ay V.next)).2=P at f m c;unfold lZ;dsimp only;rw[show cH (ax V.next)=ay V.next from rfl];obtain⟨o,g⟩:=c.sync (ay V.next);have g:=g _ m;rw[Zq (show¬(P.sync (ay V.next)).1≠0 by simpa using g)];have h:Tidy (P.sync (ay V.next)).2.files:=by
  rcases lK P (ay V.next)with⟨i,n⟩|⟨i,z,b,n⟩
  ·rw[n];exact f.1
  ·rw[n];exact f.1.aJ _ _
 generalize(P.sync (ay V.next)).2=j at h o;obtain⟨p,u⟩:=o.bw h (V.a_++[V.next]);have mt:Tidy (bw j (V.a_++[V.next])).2.files:=by
  rcases Lz h (V.a_++[V.next])with⟨-,q,-⟩|⟨-,-,q,-⟩<;>exact q
 by_cases r:(bw j (V.a_++[V.next])).1=0
 ·rw[Zq (by simpa using r)]
  exact⟨p,.inl rfl,λv=>Zz rfl v⟩
 ·rw[Zx r]
  obtain⟨i,n⟩:=p.delete (ay V.next);refine⟨i,u,λ_=>?_⟩;show an ((bw j (V.a_++[V.next])).2.delete (ay V.next)).2.files _=none;rcases n with n|⟨n,w⟩
  ·rw[n,gu mt];simp
  ·rw[w];exact n
def VJ(V:dw)(D:ak):Prop:=∀n,V.next<=n->n<1000000000000->an D.files (ay n)=none
end
section
variable {D E:ak} {A:oO} {no:Int} {l x:List ah} {k j n s:Nat} {V:dw}
def cg.read(n:cg D)(P:an D.files w=some W):D.read w=(W.bytes,0):=by
 unfold ak.read;rw[n.dead,P];rfl
def cg.told(P:cg D){n:List Int}(a:an D.files bZ=some (dT (bQ n)))(b:∀x∈n,aM x)(c:n.length<=64):told D=n:=by
 unfold Go.Proofs.YtjgjkeponbeekaaGreatDoor.told dF;rw[P.read a,Zq sM,show(dT (bQ n)).bytes=bQ n from rfl,oX b c];rfl
def yR(d:cg D):∀(A:oO) (n:List Int) (P:List ah) (V:dw),(∀x∈A,an D.files (ay x.1)=some (dT (az x.2)))->(∀a∈(A.map (·.2)).flatten,a.Ok/\a.aN.length<=64)->
  ∃b,cO (cY A++n) P V D=cO n (P++(A.map (·.2)).flatten) ⟨V.size,V.a_++cY A,b,V.next⟩ D
 |[],n,P,V,_,_=>⟨V.bytes,by simp[cY]⟩
 |y::A,n,P,V,e,f=>by
  have g:=d.read (e y (QV ..));have h:=qV (l:=y.2) λa c=>f a (by simp only[QY,List.flatten_cons];exact ZV _ c);obtain⟨b,i⟩:=yR d A n (P++y.2) ⟨V.size,V.a_++[y.1],((az y.2).length:Nat),V.next⟩ (λx j=>e x (QJ _ j)) λa c=>f a (by simp only[QY,List.flatten_cons];exact ZW _ c);refine⟨b,?_⟩;have k:cY (y::A)++n=y.1::(cY A++n):=rfl;rw[k]
  conv=>lhs;unfold cO
  have l:(dT (az y.2)).bytes=az y.2:=rfl;rw[g,Zq sM,l];dsimp only;rw[h,Zq sM];dsimp only;rw[i];simp[cY,XQ]
def Pv{size:Int}(d:cg D)(r:Tidy D.files)(a:cF E A no l k)(m:∀x∈A,an D.files (ay x.1)=some (dT (az x.2)))(o:an D.files bZ=some (dT (bQ (cY A++[no]))))(g:an D.files (ay no)=some ⟨(az l).take n,s,true⟩)(hs:s<=min n (az l).length)(M:(az (l.take k)).length<=s):
  ∃P,k<=P/\P<=l.length/\((az l).length<=n->P=l.length)/\(aS D size).no=0/\(aS D size).out=cj A (l.take P)/\EB (aS D size).V A no (l.take P)/\(aS D size).V.size=size/\(aS D size).V.next=iD D/\
   cF (aS D size).D A no (l.take P) k/\cg (aS D size).D/\(s=min n (az l).length->cF (aS D size).D A no (l.take P) P)/\∀x,x≠ay no->an (aS D size).D.files x=an D.files x:=by
 have t:=a.Yz;obtain⟨P,u,N,O,v⟩:=wL t n;have b3:=jY l P;have p:k<=P:=by
  refine Nat.le_of_not_lt λq=>?_;have Q:=v (by have:=a.kl;omega);have R:=Cv (l:=l) (i:=P+1) (j:=k) q;omega
 have S:(az l).length<=n->P=l.length:=λhn=>by
  refine Nat.le_antisymm u (Nat.le_of_not_lt λq=>?_);have Q:=v q;have R:=jY l (P+1);omega
 have T:∀x∈cY A++[no],aM x:=λx e=>by have:=a.Ar x e;unfold aM;omega
 have U:(cY A++[no]).length<=64:=by have:=a.many;simpa[cY]using this
 have w:=d.told o T U;obtain⟨y,V⟩:=yR d A [no] [] (dP D size) m λb f=>a.evs b (ZV _ f);have z:=d.read g;simp only at z;have b4:((az l).take n).length=min n (az l).length:=Qy;have B:no<iD D:=Jo (by have:=a.ug;omega) (by rw[g];rfl);have C:=sA D.list;have F:∀b∈l.take P,b.Ok/\b.aN.length<=64:=λb f=>t b (List.mem_of_mem_take f);have W:cF ⟨D.most,aJ D.files (ay no) ⟨az l,(az l).length,true⟩,D.jz,D.left,D.dead⟩ A no l k:=by
  have X:=a.VI;have Y:=(fB (n:=no) (.inr (by have:=a.ug;omega))).1;exact⟨r.aJ _ _,λx e=>by show an (aJ _ _ _) _=_;rw[bl,Zq (by simpa using X x e)];exact m x e,⟨_,by show an (aJ _ _ _) _=_;rw[bl];simp,by exact jY l k,Q4 _⟩,a.kl,by show an (aJ _ _ _) _=_;rw[bl,Zq (by simpa using Y.symm)];exact o,a.Ar,a.zy,a.evs,a.many⟩
 have H:cO (told D) [] (dP D size) D=cO [no] ((A.map (·.2)).flatten) ⟨size,cY A,y,iD D⟩ D:=by
  rw[w,V];simp[dP]
 have I:cO [no] ((A.map (·.2)).flatten) ⟨size,cY A,y,iD D⟩ D=
   if(az (l.take P)).length<((az l).take n).length then⟨(D.ou (ay no) (az (l.take P)).length).1,cj A (l.take P),⟨size,cY A++[no],((az (l.take P)).length:Nat),iD D⟩,(D.ou (ay no) (az (l.take P)).length).2⟩
   else⟨0,cj A (l.take P),⟨size,cY A++[no],((az (l.take P)).length:Nat),iD D⟩,D⟩:=by
  unfold cO;rw[z,Zq sM];dsimp only;rw[N];dsimp only;split
  ·rfl
  ·unfold cO;rfl
 have J:∀(h:pw),h.no=0->h.V.a_=cY A++[no]->gv (told D).length h=h:=λh Z K=>by
  unfold gv;rw[Zq (by simpa using Z),Zq (by rw[K];simp),Zq (by rw[K,w];omega)]
 have a0:aS D size=cO (told D) [] (dP D size) D:=by
  unfold aS;rw[H,I];split
  ·exact J _ (d.ou g _).1 rfl
  ·exact J _ rfl rfl
 rw[a0,H,I];refine⟨P,p,u,S,?_⟩;split
 ·rename_i b1
  obtain⟨c1,c2,c3⟩:=d.ou g ((az (l.take P)).length:Nat);have a6:iq ((az (l.take P)).length:Nat) ((az l).take n).length=(az (l.take P)).length:=by unfold iq;omega
  have a7:(⟨(az l).take n,s,true⟩:bO).cut ((az (l.take P)).length:Nat)=⟨az (l.take P),(az (l.take P)).length,true⟩:=by
   unfold bO.cut;simp only[a6];rw[List.take_take,X2 O,Fw]
  have L:(D.ou (ay no) ((az (l.take P)).length:Nat)).2.files=aJ D.files (ay no) ⟨az (l.take P),(az (l.take P)).length,true⟩:=by
   rw[c2,a7];rfl
  have i:∀c,c<=P->cF (D.ou (ay no) ((az (l.take P)).length:Nat)).2 A no (l.take P) c:=λc j=>
   W.put (s:=(az (l.take P)).length) (by rw[L];show _=aJ (aJ _ _ _) _ _;rw[xR]) cS (jY _ _) (Q4 _) F
  refine⟨c1,rfl,⟨rfl,rfl,B,C.2⟩,rfl,rfl,i k p,c3,λ_=>i P (Q4 _),λx e=>?_⟩;show an (D.ou (ay no) ((az (l.take P)).length:Nat)).2.files x=_;rw[L,bl,Zq (by simpa using e)]
 ·rename_i b2
  have a8:(az (l.take P)).length=min n (az l).length:=oM
  have a9:(az l).take n=az (l.take P):=by
   rw[<-Fw l P,a8,List.take_eq_take_iff];omega
  have i:∀c,c<=P->(az (l.take c)).length<=s->cF D A no (l.take P) c:=λc j b0=>
   ⟨r,m,⟨s,by rw[g,a9],by rw[List.take_take,X2 j];exact b0,oM⟩,by simp;omega,o,a.Ar,a.zy,λb f=>(Q6.1 f).elim (λh'=>a.evs b (ZV _ h')) (F b),a.many⟩
  exact⟨rfl,rfl,⟨rfl,rfl,B,C.2⟩,rfl,rfl,i k p M,d,λf=>i P (Q4 _) oM,λ_ _=>rfl⟩
def JI(P:Nat)(n:Int):aS (gW P) n=⟨(bz ⟨n,[],0,1⟩ (gW P)).1,[],(bz ⟨n,[],0,1⟩ (gW P)).2.1,(bz ⟨n,[],0,1⟩ (gW P)).2.2⟩:=by
 have a:iD (gW P)=1:=by simp[iD,tJ,ak.list,gW,tA]
 have b:told (gW P)=[]:=by
  have:(gW P).read bZ=([],14):=by simp[ak.read,gW,an]
  unfold told dF;rw[this];rfl
 have c:(dP (gW P) n)=⟨n,[],0,1⟩:=by unfold dP;rw[a]
 unfold aS;rw[b,c];unfold cO gv;rw[Zq sM,Zx rfl];unfold aH;rw[Zx rfl]
def Ss(P:Nat)(n:Int):((aS (gW P) n).no=3\/(aS (gW P) n).no=12)\/
  ((aS (gW P) n).no=0/\(aS (gW P) n).out=[]/\cF (aS (gW P) n).D [] 1 [] 0/\EB (aS (gW P) n).V [] 1 []/\(aS (gW P) n).V.size=n/\(aS (gW P) n).V.next=2/\cg (aS (gW P) n).D/\VJ (aS (gW P) n).V (aS (gW P) n).D):=by
 have e:cg (gW P):=⟨rfl,rfl⟩
 have c:Tidy (gW P).files:=by simp[Tidy,gW]
 rw[JI];obtain⟨f,g,s⟩:=Hr (V:=⟨n,[],0,1⟩) e c ⟨sM,sM⟩ (by simp[gW,an]);rcases Cw (D:=gW P) (V:=⟨n,[],0,1⟩) c sM with⟨b,h,i,j⟩|⟨b,h,i,j,a,k,l,m,o⟩
 ·exact .inl (g.resolve_left b)
 ·refine .inr ⟨b,rfl,⟨k,sM,⟨0,l,by simp[az],Qj _⟩,Q4 _,m,by simp[cY],by simp[cY],by simp[cj],sM⟩,⟨by rw[a];rfl,by rw[a];rfl,by rw[a];simp⟩,by rw[a],by rw[a];rfl,f,?_⟩
  show VJ (bz ⟨n,[],0,1⟩ (gW P)).2.1 (bz ⟨n,[],0,1⟩ (gW P)).2.2;rw[a];intro p q t;simp only at q;have d:=fB (n:=p) (.inr oM);rw[o _ (λr=>by have:=sv (a:=1) oM r;omega) d.2 d.1];simp[gW,an]
end
section
variable {D E:ak} {A:oO} {no:Int} {l x:List ah} {k:Nat} {V:dw} {b:List UInt8} {size:Int}
def Br:∀(b:List Int) {D:ak},Tidy D.files->Tidy (jL b D).files/\∀P,(∀n∈b,P≠ay n)->an (jL b D).files P=an D.files P
 |[],D,c=>⟨c,λ_ _=>rfl⟩
 |n::b,D,c=>by
  have d:Tidy (D.delete (ay n)).2.files/\∀P,P≠ay n->an (D.delete (ay n)).2.files P=an D.files P:=by
   rcases jH D (ay n)with e|e
   ·rw[e];exact⟨c,λ_ _=>rfl⟩
   ·rw[e];exact⟨c.bK _,λP a=>by rw[gu c,Zq (by simpa using a)]⟩
  unfold jL;split
  ·exact⟨d.1,λP a=>d.2 P (a n (QV ..))⟩
  ·obtain⟨f,g⟩:=Br b d.1
   exact⟨f,λP a=>(g P λh i=>a h (QJ _ i)).trans (d.2 P (a n (QV ..)))⟩
def GG(s:Tidy D.files)(t:0<=no):((bC no b D).1≠0/\Tidy (bC no b D).2.files/\∀n,n≠ay no->n≠aO->an (bC no b D).2.files n=an D.files n)\/
  ((bC no b D).1=0/\no<1000000000000/\an D.files (ay no)=none/\Tidy (bC no b D).2.files/\an (bC no b D).2.files (ay no)=some (dT b)/\
   an (bC no b D).2.files bZ=some (dT (bQ [no]))/\∀n,n≠ay no->n≠aO->n≠bZ->an (bC no b D).2.files n=an D.files n):=by
 unfold bC;dsimp only;rw[show cH (ax no)=ay no from rfl];rcases jM D (ay no)with⟨k,l⟩|⟨k,l,B,u⟩
 ·rw[Zx k]
  exact .inl ⟨k,by show Tidy (D.create _).2.files;rw[l];exact s,λn _ _=>by show an (D.create (ay no)).2.files n=_;rw[l]⟩
 have v:=(ue t).1 l;obtain⟨C,nt⟩:=fB (n:=no) (.inr ⟨t,v⟩);rw[Zq (show¬(D.create (ay no)).1≠0 by simpa using k)];have m:uf (ay no) D (D.create (ay no)).2:=(uf.refl s).put u;have w:an (D.create (ay no)).2.files (ay no)=some ⟨[],0,false⟩:=by rw[u,bl];simp
 generalize(D.create (ay no)).2=f at m w;have d:∀{F:ak},Tidy F.files->(∀n,n≠ay no->n≠aO->an F.files n=an D.files n)->Tidy (F.delete (ay no)).2.files/\∀n,n≠ay no->n≠aO->an (F.delete (ay no)).2.files n=an D.files n:=by
  intro F q x;rcases jH F (ay no)with e|e
  ·rw[e];exact⟨q,x⟩
  ·rw[e];exact⟨q.bK _,λn a h=>by rw[gu q,Zq (by simpa using a)];exact x n a h⟩
 rcases lJ f (ay no) b with⟨c,P⟩|⟨c,E,i,P⟩
 ·rw[Zx c]
  have:=d (F:=(f.append (ay no) b).2) (by rw[P];exact m.1) λn a _=>by rw[P];exact m.2 n a
  exact .inl ⟨c,this⟩
 rw[w]at i;cases i
 rw[Zq (show¬(f.append (ay no) b).1≠0 by simpa using c)];have o:uf (ay no) D (f.append (ay no) b).2:=m.put P;have y:an (f.append (ay no) b).2.files (ay no)=some ⟨b,0,false⟩:=by rw[P,bl];simp
 generalize(f.append (ay no) b).2=g at o y;rcases lK g (ay no)with⟨c,P⟩|⟨c,E,i,P⟩
 ·rw[Zx c]
  have:=d (F:=(g.sync (ay no)).2) (by rw[P];exact o.1) λn a _=>by rw[P];exact o.2 n a
  exact .inl ⟨c,this⟩
 rw[y]at i;cases i
 have p:uf (ay no) D (g.sync (ay no)).2:=o.put P;have z:an (g.sync (ay no)).2.files (ay no)=some (dT b):=by rw[P,bl];simp
 rw[Zq (show¬(g.sync (ay no)).1≠0 by simpa using c)];generalize(g.sync (ay no)).2=H at p z;rcases Lz p.1 [no]with⟨j,r⟩|⟨j,r,I,J,A⟩
 ·rw[Zx j]
  have:=d (F:=(bw H [no]).2) r.1 λn a h=>(r.2 n h).trans (p.2 n a);exact .inl ⟨j,this⟩
 ·rw[Zq (by simpa using j)]
  exact .inr ⟨j,v,B,I,(A _ nt C).trans z,J,λn a h K=>(A n h K).trans (p.2 n a)⟩
def cF.lt_next(b:cF D A no l k)(c:EB V A no l):∀n∈cY A++[no],n<V.next:=λn d=>by
 have e:=c.next;rcases Q6.1 d with P|P
 ·have a:=b.zy
  rw[List.pairwise_append]at a;have:=a.2.2 n P no (List.mem_singleton.2 rfl);omega
 ·have:=List.mem_singleton.1 P;omega
def cF.ne_next(P:cF D A no l k)(b:EB V A no l):∀n∈cY A++[no],ay n≠ay V.next:=λn a c=>by
 have d:=P.Ar n a;have e:=P.lt_next b n a;have:=sv (a:=n) ⟨oM,d.2⟩ c.symm;omega
def Ue(a:0<=no):bZ≠ay no:=λn=>by
 by_cases b:no<1000000000000
 ·exact(fB (n:=no) (.inr oM)).1 n.symm
 ·have P:ay no=cH []:=by unfold ay ax;rw[Zx (.inr oM)]
  rw[P]at n
  revert n;decide+kernel
def RM(P:Tidy D.files)(a:1<=no/\no<1000000000000)(b:an D.files (ay no)=some (dT (az x)))(c:an D.files bZ=some (dT (bQ [no])))(d:∀n∈x,n.Ok/\n.aN.length<=64):cF D [] no x x.length:=
 ⟨P,λf e=>(by cases e),⟨_,b,by rw[List.take_length];exact Q4 _,Q4 _⟩,Q4 _,c,by simpa[cY]using a,by simp[cY],by simpa[cj]using d,sM⟩
def cF.bC(n:cF D A no l k)(d:EB V A no l)(g:∀P∈x,P.Ok/\P.aN.length<=64):
  ((bC V.next (az x) D).1≠0/\cF (bC V.next (az x) D).2 A no l k)\/((bC V.next (az x) D).1=0/\V.next<1000000000000/\cF (bC V.next (az x) D).2 [] V.next x x.length):=by
 have m:=n.ug;have o:=d.next;rcases GG (b:=az x) n.tidy (show 0<=V.next by omega)with⟨a,b,c⟩|⟨a,b,c,h,i,j,p⟩
 ·exact .inl ⟨a,n.same b (λe f=>c _ (n.ne_next d e f) (fB (.inr (by have:=n.Ar e f;omega))).2) (c _ (Ue oM) λP=>Nv P.symm)⟩
 ·exact .inr ⟨a,b,RM h oM i j g⟩
def uh(n:D.dead=false)(P:an D.files w=some W):D.read w=(W.bytes,0):=by
 unfold ak.read;rw[n,P];rfl
def vv(d:D.dead=false):∀(A:oO) (n:List Int) (P:List ah) (V:dw),(∀x∈A,an D.files (ay x.1)=some (dT (az x.2)))->(∀a∈(A.map (·.2)).flatten,a.Ok/\a.aN.length<=64)->
  ∃b,cO (cY A++n) P V D=cO n (P++(A.map (·.2)).flatten) ⟨V.size,V.a_++cY A,b,V.next⟩ D
 |[],n,P,V,_,_=>⟨V.bytes,by simp[cY]⟩
 |y::A,n,P,V,e,f=>by
  have g:=uh d (e y (QV ..));have h:=qV (l:=y.2) λa c=>f a (by simp only[QY,List.flatten_cons];exact ZV _ c);obtain⟨b,i⟩:=vv d A n (P++y.2) ⟨V.size,V.a_++[y.1],((az y.2).length:Nat),V.next⟩ (λx j=>e x (QJ _ j)) λa c=>f a (by simp only[QY,List.flatten_cons];exact ZW _ c);refine⟨b,?_⟩;have k:cY (y::A)++n=y.1::(cY A++n):=rfl;rw[k]
  conv=>lhs;unfold cO
  have l:(dT (az y.2)).bytes=az y.2:=rfl;rw[g,Zq sM,l];dsimp only;rw[h,Zq sM];dsimp only;rw[i];simp[cY,XQ]
def LA(n:cF D A no l k)(P:D.dead=false):aS D size=⟨0,cj A l,⟨size,cY A++[no],((az l).length:Nat),iD D⟩,D⟩:=by
 obtain⟨o,c,p,q⟩:=n.last;have d:∀x∈cY A++[no],aM x:=λx e=>by have:=n.Ar x e;unfold aM;omega
 have f:(cY A++[no]).length<=64:=by have:=n.many;simpa[cY]using this
 have a:told D=cY A++[no]:=by
  unfold told dF;rw[uh P n.WZ,Zq sM,show(dT (bQ (cY A++[no]))).bytes=bQ (cY A++[no])from rfl,oX d f];rfl
 obtain⟨b,g⟩:=vv P A [no] [] (dP D size) n.full λh i=>n.evs h (ZV _ i);have j:=uh P c;have m:cO (told D) [] (dP D size) D=⟨0,cj A l,⟨size,cY A++[no],((az l).length:Nat),iD D⟩,D⟩:=by
  rw[a,g];unfold cO;rw[j,Zq sM];dsimp only;rw[qV n.Yz,Zq sM];unfold cO;simp[dP,cj]
 unfold aS;rw[m];unfold gv;rw[Zq sM,Zq sM,Zq (by rw[a];simp)]
def OR(n:D.dead=true):(aS D size).no=15/\(aS D size).D.files=D.files:=by
 have P:told D=[]:=by
  have:D.read bZ=([],15):=by unfold ak.read;rw[n];rfl
  unfold told dF;rw[this];rfl
 have a:∀V:dw,V.a_=[]->aH V D=(15,V,D.gone):=λV b=>by
  unfold aH;rw[Zx b];have c:D.create (cH (ax V.next))=(15,D.gone):=by
   unfold ak.create ak.op ak.dies;rw[n];rfl
  unfold bz;dsimp only;rw[c,Zx sM]
 unfold aS;rw[P];unfold cO gv;rw[Zq sM,Zx (show(dP D size).a_=[]from rfl),show aH _ _=_ from a (dP D size) rfl];exact⟨rfl,rfl⟩
end
section
variable {D E:ak} {A:oO} {no:Int} {l x:List ah} {k:Nat} {V:dw} {b:List UInt8} {size:Int} {L:List Int}
structure KC (D:ak) (no:Int) (x:List ah):Prop where
 held:cF D [] no x x.length
 alive:cg D
 none:∀y,y≠ay no->y≠bZ->an D.files y=none
def RN:(ig bZ).2=false:=by decide+kernel
end
section
variable {D E:ak} {A:oO} {no:Int} {l:List ah} {k:Nat}
def Bc:∀(n:List ByteArray) {D:ak},cg D->cg (KV D n)
 |[],D,P=>P
 |s::n,D,P=>Bc n (P.delete s).1
def Bd:∀(a:List ByteArray) {D:ak},cg D->Tidy D.files->∀n,an (KV D a).files n=if n∈a then none else an D.files n
 |[],D,_,_,n=>by simp[KV]
 |P::a,D,d,b,n=>by
  show an (KV (D.delete P).2 a).files n=_;obtain⟨f,g⟩:=d.delete P;have h:Tidy (D.delete P).2.files:=by
   rcases jH D P with e|e
   ·rw[e];exact b
   ·rw[e];exact b.bK _
  have e:an (D.delete P).2.files n=if n=P then none else an D.files n:=by
   rcases g with e|⟨i,e⟩
   ·rw[e,gu b];simp
   ·rw[e];split
    ·rename_i j;rw[j,i]
    ·rfl
  rw[Bd a f h n,e]
  by_cases c:n∈a
  ·simp[c]
  ·by_cases k:n=P<;>simp[c,k]
def KW:bZ≠aO:=by decide+kernel
end
end Go.Proofs.YtjgjkeponbeekaaGreatDoor
namespace Go.Proofs
open Go.RowKit Go.Maps Go.Sort Go.Shelf
def Tryz.WT(b:Nat):AnyZI.SortsIn Tryz.prog Tryz.zh Fence.wide b:=
 ⟨λaG P n c a d e f=>callsIn_wide.2 (AnyM.slices_Sort_int Tryz.wO aG P n c a d e f),
  λg n a=>callsIn_wide.2 (AnyM.slices_Sort_int_none Tryz.wO g n a)⟩
end Go.Proofs
namespace Go.Proofs.YtjgjkeponbeekaaGreatDoor
section
open Go.aw
open Go.RowKit Go.Maps Go.Sort Go.Shelf
def wO(n:List Int):List Int:=n.mergeSort (λP a=>decide (P<=a))
variable{g5:List (Int×Value)}{a c:Nat}{C:Nat×Nat}{g:TypeId}{b:World}
def Ap(w:bU b a (Value.int .i64) g5)(H:∀f∈g5,aM f.1)(x:g5.length*8<=aR)(y:b.heap[c]? =some (.cells #[.map (some a)] g C)):
  be 197 #[.func (.func 250) #[] #[RK c]] b
   (Ok λp z=>HK b 3 (wO (g5.map (·.1))) p z):=by
 unfold aR at x;obtain⟨d,h,I,l,J,K⟩:=w.at';have L:Tryz.prog.underlying 3=some (.int .i64):=Tryz.underlying3;have M:d.size=g5.length:=by have:=Zj List.length l;simpa using this
 have N:∀n:Int,aM n->(Lit.int .i64 n).wf=true:=λn i=>by unfold aM at i;simp[Lit.wf,IntKind.min,IntKind.max,IntKind.signed,IntKind.bits];omega
 have A:∀P∈d.toList,∃n,P.key=Value.int .i64 n/\aM n:=λP e=>by
  have O:(P.key,P.val)∈g5.map (λf=>(Value.int .i64 f.1,f.2)):=by rw[<-l];exact Xk.2 ⟨P,e,rfl⟩
  obtain⟨f,Q,R⟩:=Xk.1 O;exact⟨f.1,(Prod.mk.inj R).1.symm,H f Q⟩
 have B:∀P∈d.toList,∀n,P.key=Value.int .i64 n->aM n->WideElems.rd LL 3 (λ_=>some ((.nil:DataW Unit),[])) P=some (.int .i64 n,.nil):=λP _ n i j=>by
  simp[WideElems.rd,i,Maps.keyOf_int_mk L (N n j)]
 have S:WideElems.Fit LL 3 (λ_=>some ((.nil:DataW Unit),[])) d h:=by
  refine⟨by unfold maxLen;omega,⟨J,K,?_⟩,λP e=>?_⟩
  ·have:d.toList.map (·.key)=(g5.map (·.1)).map (Value.int .i64):=by
    have:=Zj (List.map (λq:Value×Value=>q.1)) l;simpa[Function.comp_def]using this
   rw[this];exact List.pairwise_map.2 (List.Pairwise.imp (λT=>by simpa using T) w.tidy)
  ·obtain⟨n,i,j⟩:=A P e
   exact⟨_,B P e n i j⟩
 have U:b.ownsMap LL 3 (λ_=>some ((.nil:DataW Unit),[])) a d.size (.map ((d.toList.map (WideElems.rg LL 3 (λ_=>some ((.nil:DataW Unit),[])))).foldr DataW.insert [])):=
  ⟨d,h,I,S,Q4 _,rfl⟩
 have E:Maps.size (.map ((d.toList.map (WideElems.rg LL 3 (λ_=>some ((.nil:DataW Unit),[])))).foldr DataW.insert []))=g5.length:=by
  show(List.foldr DataW.insert [] _).length=_;rw[(WideShapes.sorted_perm _).length_eq];simp[M]
 have V:(intKeys (.map ((d.toList.map (WideElems.rg LL 3 (λ_=>some ((.nil:DataW Unit),[])))).foldr DataW.insert []))).Perm (g5.map (·.1)):=by
  refine(List.Perm.map (λf:Lit×DataW Unit=>Go.intOf f.1) (WideShapes.sorted_perm _)).trans ?_;have:(d.toList.map (WideElems.rg LL 3 (λ_=>some ((.nil:DataW Unit),[])))).map (λf=>Go.intOf f.1)=g5.map (·.1):=by
   have W:d.toList.map (λP=>match P.key with| .int _ n=>n|_=>0)=g5.map (·.1):=by
    have:=Zj (List.map (λq:Value×Value=>match q.1 with| .int _ n=>n|_=>0)) l;simpa[Function.comp_def]using this
   rw[<-W,List.map_map];refine List.map_congr_left λP e=>?_;obtain⟨n,i,j⟩:=A P e;simp[WideElems.rg,B P e n i j,i,Go.intOf]
  rw[this]
 have X:SeqGives Fence.wide 1 LL 250 #[RK c] encZ (λk=>k.Perm (intKeys _)) (Maps.size _) b:=
  AnyZI.keys_gives (ρ:=Tryz.FP) {Tryz.Yn with} Fence.wide _ trivial rfl oM c a d.size _ b (aA y) (ae y rfl) U
 have Y:=AnyZI.sorted_in Tryz.Vg Fence.wide 4 trivial trivial trivial trivial rfl oM (Tryz.WT _) (enters_of Tryz.func249 kR rfl) 250 #[RK c] trivial
  (enters_of Tryz.func250 kR rfl) _ _ (by rw[E];unfold maxLen;omega) (by rw[E];exact x) b X
 refine((callsIn_wide (n:=4)).1 Y).mono ?_;rintro P z ⟨p,k,rfl,Z,m,a5,r⟩;have F:k.mergeSort (λn a0=>decide (n<=a0))=wO (g5.map (·.1)):=mergeSort_of_perm_i (Z.trans V);have a6:k.length=(wO (g5.map (·.1))).length:=by rw[<-F];simp
 rw[F]at m;have hv:∃s t,p= .slice s k.length t:=by
  rcases m.2 with⟨rfl,h0⟩|⟨g',u,v,rfl,_⟩
  ·exact⟨none,0,by rw[h0]⟩
  ·exact⟨_,_,rfl⟩
 obtain⟨s,t,rfl⟩:=hv;refine Ok.mk ⟨s,_,t,rfl,⟨ownsRow_base_a m (Qj _)⟩,aj.HZ r,λa1 o=>?_⟩;rcases m.2 with⟨e,_⟩|⟨g',u,v,e,a7,_⟩
 ·simp only[XX]at e
  rw[e.1]at o;cases o
 ·simp only[XX]at e
  rw[e.1]at o;simp only[aG,Q1]at o;omega
end
section
open Go.aw
structure kC where
 di:Int
 asked:List (Int×Int)
 heard:List (Int×List Int)
 deriving DecidableEq
def ZO(n:Value)(P:Int):Prop:=n= WP P
def Qe(d:World)(e:UK)(f:Value)(a:List Int):Prop:=
 ∃n P b,f= .slice n P b/\Own d 3 1 n P b (ints a)/\P*8<=aR/\(∀g∈a,aM g)/\∀c,aG n=some c->e c
def Qe.keep{S b F':UK}{a e:World}{f:Value}{g:List Int}(c:Qe a b f g)(l:aj S a e)(m:∀n,b n->n<a.heap.size->(∃h,a.heap[n]? =some h/\∀i j,h≠.map i j)->¬S n)(o:∀n,b n->F' n):Qe e F' f g:=by
 obtain⟨p,q,r,rfl,d,P,s,k⟩:=c;refine⟨p,q,r,rfl,d.keep l (dy.2 λn P=>?_),P,s,λn P=>o n (k n P)⟩;refine m n (k n P) (d.lt P) ?_;rcases d.cases with⟨rfl,_⟩|⟨v,t,rfl,u,_⟩
 ·cases P
 ·simp only[aG,Q1]at P
  subst P;exact⟨_,u,λi j c=>by cases c⟩
structure ez (w:World) (p:Nat) (F:UK) (T:kC):Prop where
 body:∃ra rh la lh,w.heap[p]? =some (.cells #[WP T.di,.map (some ra),.map (some rh)] 151 (0,0))/\bU w ra (Value.int .i64) la/\bU w rh (Value.int .i64) lh/\
  fK ZO la T.asked/\fK (Qe w F) lh T.heard/\F ra/\F rh/\ra≠rh
 self:F p
 aF:∀b,F b->b<w.heap.size
 Kq:Tidy T.asked
 tB:∀q∈T.asked,aM q.1
variable{Y m:Array Value}{K:Bool}{A:am}{e r:Int}{h5:List (Int×List Int)}{g5:List (Int×Value)}{b2 s:List Int}{a5 h6:List PanicEntry->ba}{F:List ah}{a8:List bV}{E a c i q:Nat}{f:UK}{C:Nat×Nat}{d x:bc}{h:Program}{j:Type}{v:Value}{o t:ac}{b k:World}{S:aT}{N l:ah}{H:au}{b3:dw}{b7:kC}{d1:lI}
def ez.keep{S e:UK}(n:ez b a e b7)(c:aj S b k)(d:∀P,e P->¬S P):ez k a e b7:=by
 obtain⟨i,j,l,m,o,p,q,r,s,g,h,t⟩:=n.body;exact⟨⟨i,j,l,m,c.get o (d _ n.self),p.keep c (d _ g),q.keep c (d _ h),r,s.mono λv w u=>u.keep c (λP f _ _=>d P f) (λ_ n=>n),g,h,t⟩,
  n.self,λP f=>Qk (n.aF P f) c.size,n.Kq,n.tB⟩
def ez.af(n:ez b a f b7)(P:ai b k):ez k a f b7:=n.keep P λ_ _ n=>n
def kI:jo LL 3 (Value.int .i64):=Xg Tryz.underlying3
def mA:mZ LL 148 3 3 (WP 0):=⟨kR,kR⟩
def mH:mZ LL 149 3 42 (.slice none 0 0):=⟨kR,kR⟩
def JZ:be 45 #[WP e] b
  (Ok λh c=>∃d f,h= RK d/\ez c d f ⟨e,[],[]⟩/\ai b c/\∀n,f n->b.heap.size<=n):=by
 refine DE (PA.mk λi j q k=>PA.mk λl g r m=>PA.mk λo P s p=>Ok.mk ⟨l.heap.size,λn=>b.heap.size<=n/\n<o.heap.size,rfl,
  ⟨⟨b.heap.size,i.heap.size,[],[],p,bU.new (P.get (g.get k id) id),bU.new (P.get m id),trivial,trivial,oM,oM,oM⟩,oM,λn a=>a.2,by simp[Tidy],sM⟩,
  (j.af g).af P,λn a=>a.1⟩)
def Ke(n:ez b a f b7)(t:aM e):
  be 82 #[RK a,WP e,WP r] b
   (Ok λo i=>o= .tuple #[]/\ez i a f {b7 with asked:=aJ b7.asked e r}/\aj f b i):=by
 obtain⟨P,u,K,v,j,p,w,x,y,q,z,s⟩:=n.body;have A:∃c d,b.heap[P]? =some (.map c d):=by obtain⟨c,d,n,_⟩:=p.at';exact⟨c,d,n⟩
 obtain⟨c,d,k⟩:=A;have B:a≠P:=by rintro rfl;rw[j]at k;cases k
 refine qq ⟨a,0,rfl,some P,ae j rfl,dB mA kI p λi C g E=>Ok.mk ⟨rfl,⟨⟨P,u,_,v,g.get j B,C,w.keep g (Ne.symm s),fK.aJ (R:=ZO) rfl x,?_,q,z,s⟩,n.self,?_,n.Kq.aJ _ _,?_⟩,g.mono ?_⟩⟩
 ·refine y.mono λo L F=>F.keep g (λl _ _ h=>?_) (λ_ n=>n)
  rintro rfl;obtain⟨M,h,H⟩:=h;rw[k]at h;cases h;exact H _ _ rfl
 ·intro l I;rw[E];exact n.aF l I
 ·intro J m
  rcases fI m with rfl|m
  ·exact t
  ·exact n.tB J m
 ·rintro l _ rfl;exact q
def kC.all(P:kC)(n:Int)(a:List Int):List Int:=kZ ((an P.heard n).getD []) a
def HI(P n:List Int):Bool:=nh P n==0||nh P n==2
def kC.ends(a:kC)(n:Int)(b P:List Int):Bool:=(an a.asked n).isSome&&HI (a.all n b) P
def kC.Ao(P:kC)(n:Int)(b a:List Int):kC:=
 {P with heard:=aJ P.heard n (P.all n b),asked:=if P.ends n b a then bK P.asked n else P.asked}
def CM(a:∀b∈s,aM b)(n:Int):aM (fY s n):=by
 unfold fY;split
 ·unfold aM;omega
 ·by_cases P:n.toNat<s.length
  ·have:=a s[n.toNat] (XY P)
   simp only[List.getD,Qq P,Option.getD_some];unfold aM at*;omega
  ·have:s[n.toNat]? =none:=by simp;omega
   simp only[List.getD,this,Option.getD_none];unfold aM;omega
def FI(a:∀n∈s,aM n)(b:∀n∈b2,aM n):∀n∈kZ s b2,aM n:=by
 intro n c;obtain⟨P,_,rfl⟩:=Xk.1 c;have d:=CM a P;have e:=CM b P;unfold aM at*;omega
def HJ(n P:List Int):(kZ n P).length=max n.length P.length:=tx _ _ _
def ez.Va(i:fK (Qe b f) g5 h5)(n:Int):
  ∃P a c,(an g5 n).getD (.slice none 0 0)= .slice P a c/\Ints b P a ((an h5 n).getD [])/\a*8<=aR/\∀g,aG P=some g->f g:=by
 rcases i.an n with⟨d,e⟩|⟨m,o,d,e,P,a,c,rfl,j,h,k,l⟩
 ·rw[d,e];exact⟨none,0,0,rfl,Ints.nil b,by simp[aR],by simp[aG]⟩
 ·rw[d,e];exact⟨P,a,c,rfl,j.ints h k,h,l⟩
def JV(n:ez b a f b7)(L:Ints b d c s)(hy:Ints b x i b2)(W:b2≠[]->pR f x):
  be 120 #[RK a,WP e,.slice d c q,.slice x i E] b
   (Ok λr p=>∃F',r= .bool (b7.ends e s b2)/\ez p a F' (b7.Ao e s b2)/\cz f b F' p):=by
 obtain⟨o,u,F,lh,H,y,X,M,h5,Y,N,O⟩:=n.body;obtain⟨k,l,Q⟩:∃k l,b.heap[u]? =some (.map k l):=by obtain⟨k,l,n,_⟩:=X.at';exact⟨k,l,n⟩
 obtain⟨c9,d0,a6⟩:∃k l,b.heap[o]? =some (.map k l):=by obtain⟨k,l,n,_⟩:=y.at';exact⟨k,l,n⟩
 have b6:a≠u:=by rintro rfl;rw[H]at Q;cases Q
 have b8:a≠o:=by rintro rfl;rw[H]at a6;cases a6
 obtain⟨ha,hn,hc,hg,R,hB,hF⟩:=ez.Va h5 e;refine qs ⟨a,0,rfl,some u,ae H rfl,AA mH kI X ⟨ha,hn,hc,hg,PC.ok (Bo R L) ?_⟩⟩;rintro _ w1 ⟨v,z,S,rfl,Z,t,a7⟩;have b9:z=(b7.all e s).length:=by have:=Z.length;rw[j_,Nat.mul_one]at this;exact this.symm
 have a8:z*8<=aR:=by
  rw[b9];unfold kC.all;rw[HJ];have:=R.len;have:=R.fh;have:=L.len;have:=L.fh;unfold aR at*;omega
 have a9:∀c0∈b7.all e s,aM c0:=FI R.Ar L.Ar;refine⟨v,z,S,rfl,a,0,rfl,some u,ae (t.get H id) rfl,dB mH kI (X.keep t id) λh b0 A c1=>?_⟩;have I:aG v≠some u:=λj=>by have:=a7 _ j;have:=aA Q;omega
 have b1:Own h 3 1 v z S (ints (b7.all e s)):=Z.keep A (dy.2 λx W=>by rintro rfl;exact I W);have c2:Ints h x i b2:=(hy.af t).H_ A λc3 a0 hq=>by rintro rfl;exact W c3 a0 hq N
 refine PC.ok (Oc (b1.ints a8 a9) c2) ?_;rintro _ _ ⟨rfl,rfl⟩;have T:h.heap[a]? =some (.cells #[WP b7.di,.map (some o),.map (some u)] 151 (0,0)):=A.get (t.get H id) b6;have U:bU h o (Value.int .i64) F:=(y.keep t id).keep A O;refine⟨_,rfl,?_⟩
 let F':UK:=λP=>f P\/(b.heap.size<=P/\P<w1.heap.size)
 have a1:cz f b F' h:=⟨(t.keep (S:=f)).trans A (λ_ _ n=>n) (by rintro P _ rfl;exact N),λP m=>m.imp id (·.1)⟩
 have b3:fK (Qe h F') (aJ lh e (.slice v z S)) (aJ b7.heard e (b7.all e s)):=by
  refine fK.aJ ⟨v,z,S,rfl,b1,a8,a9,λP m=>.inr ⟨a7 P m,Z.lt m⟩⟩ (h5.mono λr ys J=>?_);refine(J.keep t (F':=f) (λ_ _ _ _ n=>n) (λ_ n=>n)).keep A (λP _ _ g=>?_) (λ_ n=>.inl n);rintro rfl;obtain⟨c4,g,I⟩:=g;rw[t.get Q id]at g;cases g;exact I _ _ rfl
 have b4:∀P,F' P->P<h.heap.size:=λP m=>by
  rw[c1];rcases m with m|m
  ·exact Qk (n.aF P m) t.size
  ·exact m.2
 have c5:ez h a F' {b7 with heard:=aJ b7.heard e (b7.all e s)}:=
  ⟨⟨o,u,F,_,T,U,b0,M,b3,.inl Y,.inl N,O⟩,.inl n.self,b4,n.Kq,n.tB⟩
 have a2:(an F e).isSome=(an b7.asked e).isSome:=by
  rcases M.an e with⟨B,V⟩|⟨r,b5,B,V,_⟩<;>rw[B,V]<;>rfl
 have c6:∃P:Int,(an F e).getD (WP 0)= WP P:=by
  rcases M.an e with⟨B,V⟩|⟨r,b5,B,V,J⟩
  ·rw[B];exact⟨0,rfl⟩
  ·rw[B];exact⟨b5,J⟩
 obtain⟨k0,c7⟩:=c6;have no:b7.ends e s b2=false->Ok (λr p=>∃F',r= .bool (b7.ends e s b2)/\ez p a F' (b7.Ao e s b2)/\cz f b F' p) (.returned (.bool false)) h:=λj=>
  Ok.mk ⟨F',by rw[j],by unfold kC.Ao;rw[j];exact c5,a1⟩
 have a3:∀w,b7.ends e s b2=true->bU w o (Value.int .i64) (bK F e)->aj (·=o) h w->w.heap.size=h.heap.size->
   Ok (λr p=>∃F',r= .bool (b7.ends e s b2)/\ez p a F' (b7.Ao e s b2)/\cz f b F' p) (.returned (.bool true)) w:=λw j hm C a5=>by
  obtain⟨d1,d2,c8⟩:∃k l,h.heap[o]? =some (.map k l):=by obtain⟨k,l,n,_⟩:=U.at';exact⟨k,l,n⟩
  refine Ok.mk ⟨F',by rw[j],?_,a1.keep.trans C (λ_ _ n=>n) (by rintro P _ rfl;exact Y),a1.new⟩;unfold kC.Ao;rw[j];refine⟨⟨o,u,_,_,C.get T b8,hm,b0.keep C (Ne.symm O),M.bK,?_,.inl Y,.inl N,O⟩,.inl n.self,λP m=>by rw[a5];exact b4 P m,n.Kq.bK e,λa0 hq=>n.tB a0 (gT hq)⟩;refine b3.mono λr ys J=>J.keep C (λP _ _ g=>?_) (λ_ n=>n);rintro rfl;obtain⟨c4,g,I⟩:=g;rw[c8]at g;cases g;exact I _ _ rfl
 refine⟨λp=>h=p/\b7.ends e s b2=true,⟨a,0,rfl,some o,ae T rfl,jG mA kI U ?_⟩,?_⟩
 rotate_left
 ·rintro _ _ ⟨rfl,j⟩
  exact⟨a,0,rfl,some o,ae T rfl,Mc mA kI U λw hm C a5=>a3 w j hm C a5⟩
 rw[c7];refine⟨k0,_,rfl,al.mk (λg=>?_) (λg=>al.mk (λh0=>al.mk (λy=>?_) (λy=>?_)) (λh0=>?_))⟩
 ·refine no ?_
  have:(an b7.asked e).isSome=false:=by rw[<-a2];simpa using g
  simp[kC.ends,this]
 ·refine no ?_
  have v:(nh (b7.all e s) b2==0)=false:=by simpa[bne]using h0
  have K:(nh (b7.all e s) b2==2)=false:=by simpa[bne]using y
  simp[kC.ends,HI,v,K]
 ·have j:b7.ends e s b2=true:=by
   have a4:(an b7.asked e).isSome=true:=by rw[<-a2];simpa using g
   have K:(nh (b7.all e s) b2==2)=true:=by simpa[bne]using y
   simp[kC.ends,HI,a4,K]
  exact⟨rfl,j⟩
 ·have j:b7.ends e s b2=true:=by
   have a4:(an b7.asked e).isSome=true:=by rw[<-a2];simpa using g
   have K:(nh (b7.all e s) b2==0)=true:=by simpa[bne]using h0
   simp[kC.ends,HI,a4,K]
  exact⟨rfl,j⟩
def kC.open(n:kC):List Int:=wO (n.asked.map (·.1))
def MU(i:ez b a f b7)(c:b7.asked.length*8<=aR):
  be 123 #[RK a] b (Ok (HK b 3 b7.open)):=by
 obtain⟨j,C,p,E,q,r,F,d,H,I,J,K⟩:=i.body;refine qZ ⟨a,0,rfl,some j,ae q rfl,PC.ok (φ:=λs e=>s= .func (.func 250) #[] #[RK b.heap.size]/\ai b e/\e.heap.size=b.heap.size+1/\
  e.heap[b.heap.size]? =some (.cells #[.map (some j)] 148 (0,0))) (jr (PA.mk λt n k g=>Ok.mk ⟨rfl,n,k,g⟩)) ?_⟩
 rintro _ t ⟨rfl,n,k,g⟩;have u:∀P∈p,aM P.1:=by
  intro P v;have:P.1∈b7.asked.map (·.1):=by rw[<-d.keys];exact Xk.2 ⟨P,v,rfl⟩
  obtain⟨w,h,x⟩:=Xk.1 this;rw[<-x];exact i.tB w h
 refine⟨_,rfl,PC.ok (Ap (r.af n) u (by rw[d.length];exact c) g) ?_⟩;rintro _ L ⟨l,m,o,rfl,y,z,A⟩;refine⟨l,m,o,rfl,Ok.mk ⟨l,m,o,rfl,?_,n.af z,λB c=>by have:=A B c;omega⟩⟩;unfold kC.open;rw[<-d.keys];exact y
def JX(c:ez b a f b7):
  be 85 #[RK a] b (Ok λt k=>t= .tuple #[]/\ez k a f ⟨b7.di,[],[]⟩/\aj f b k):=by
 obtain⟨e,g,C,E,d,l,m,F,H,o,p,i⟩:=c.body;obtain⟨n,P,q⟩:∃n P,b.heap[g]? =some (.map n P):=by obtain⟨n,P,c,_⟩:=m.at';exact⟨n,P,c⟩
 obtain⟨I,J,r⟩:∃n P,b.heap[e]? =some (.map n P):=by obtain⟨n,P,c,_⟩:=l.at';exact⟨n,P,c⟩
 have u:a≠g:=by rintro rfl;rw[d]at q;cases q
 have s:a≠e:=by rintro rfl;rw[d]at r;cases r
 refine qt ⟨a,0,rfl,some e,ae d rfl,JJ mA l λK v h w=>⟨a,0,rfl,some g,ae (h.get d s) rfl,JJ mH (m.keep h (Ne.symm i)) λL x j y=>Ok.mk ⟨rfl,
  ⟨⟨e,g,[],[],j.get (h.get d s) u,v.keep j i,x,trivial,trivial,o,p,i⟩,c.self,λz A=>by rw[y,w];exact c.aF z A,by simp[Tidy],sM⟩,?_⟩⟩⟩
 exact h.trans j (by rintro B _ rfl;exact o) (by rintro B _ rfl;exact p)
def gE(b P:Int)(a:List Int×List (Int×Int))(n:Int):List Int×List (Int×Int):=
 if PP .i64 (P-(an a.2 n).getD 0)>=b then(a.1++[n],aJ a.2 n P)else a
def kC.jD(n:kC)(P:Int)(a:Nat):List Int×List (Int×Int):=(n.open.take a).foldl (gE n.di P) ([],n.asked)
def kC.due(P:kC)(n:Int):List Int:=(P.jD n P.open.length).1
def kC.SZ(n:kC)(P:Int):kC:={n with asked:=(n.jD P n.open.length).2}
def kC.MV(P:kC)(n:Int)(b:P.open[a]? =some e):P.jD n (a+1)=gE P.di n (P.jD n a) e:=by
 unfold kC.jD;rw[Qw,b];simp
def PZ(g:ez b a f b7)(P:b7.asked.length*8<=aR):
  be 77 #[RK a,WP e] b
   (Ok λJ L=>∃M a4 a5,J= .slice M a4 a5/\Own L 3 1 M a4 a5 (ints (b7.due e))/\ez L a f (b7.SZ e)/\aj f b L/\∀n,aG M=some n->b.heap.size<=n):=by
 refine sR (PC.ok (MU g P) ?_);rintro _ N ⟨A,k,lc,rfl,l,s,hn⟩;have b2:∀d∈b7.open,aM d:=by
  intro d B;have:d∈b7.asked.map (·.1):=(List.mergeSort_perm _ _).mem_iff.1 B;obtain⟨t,u,rfl⟩:=Xk.1 this;exact g.tB t u
 have O:k=b7.open.length:=by have:=l.length;rw[j_,Nat.mul_one]at this;exact this.symm
 have b3:b7.open.length=b7.asked.length:=by simp[kC.open,wO]
 have b4:k*8<=aR:=by rw[O,b3];exact P
 have hL:Ints N A k b7.open:=l.ints b4 b2;have b5:pR f A:=dy.2 λn P Q=>by have:=hn n P;have:=g.aF n Q;omega
 unfold aR at P;have d2:pR f none:=pR.none;refine⟨A,k,lc,rfl,λa6 v w R i m=>∃c:Nat,i=c/\c<=k/\a6=k-c/\Own m 3 1 v w R (ints (b7.jD e c).1)/\w<=c/\ez m a f {b7 with asked:=(b7.jD e c).2}/\aj f b m/\Ints m A k b7.open/\N.heap.size<=m.heap.size/\
   (∀n,aG v=some n->N.heap.size<=n),⟨_,0,rfl,Qj _,rfl,Own.nil _ _ _,Qj _,g.af s,s.keep,hL,Q4 _,by simp[aG]⟩,?_⟩
 rintro a6 v w R i _ m ⟨c,rfl,d3,rfl,S,d4,C,T,U,b6,p⟩;refine al.mk (λx=>?_) (λx=>?_)
 ·have x:=XV x
  obtain⟨n,V,d,rfl,d5,B,b8,hc⟩:=U.at (i:=(c:Int)) oM oM;rw[Qx]at B;have a7:=b7.MV e B;obtain⟨ra,rh,YQ,lh,t1,t2,t3,t4,t5,t6,t7,t8⟩:=C.body;refine⟨n,V,rfl,oM,oM,d,hc,a,0,rfl,some ra,ae t1 rfl,?_⟩;have b9:(an YQ d).getD (WP 0)= WP ((an (b7.jD e c).2 d).getD 0):=by
   rcases t4.an d with⟨W,X⟩|⟨J,d6,W,X,Y⟩
   ·rw[W,X];rfl
   ·rw[W,X];exact Y
  refine⟨(an (b7.jD e c).2 d).getD 0,λc0=>?_,a,0,rfl,b7.di,ae t1 rfl,λw3 hd=>?_⟩
  ·have:=eN mA kI (t2.keep (aj.drewN (S:=λ_=>False) m c0) id) d false
   simpa[b9]using this
  have h:ai m w3:=hd.keep;refine al.mk (λo=>?_) (λo=>?_)
  ·have o:=XV o
   refine PA.mk λw4 q s4 g4=>?_;refine Nh VN ((S.af h).af q) g4 (by unfold aR at*;omega) λa' c' w5 a8 E K=>?_;refine⟨a',w+1,c',rfl,a,0,rfl,?_⟩;have c1:∀n,f n->¬(some n=aG v):=λn Q Z=>by have:=p n Z.symm;have:=g.aF n Q;have:=s.size;omega
   have y:ez w5 a f {b7 with asked:=(b7.jD e c).2}:=((C.af h).af q).keep E c1;obtain⟨j,a0,a9,a1,a2,b0,c2,c3,c4,a3,c5,b1⟩:=y.body;refine⟨some j,ae a2 rfl,dB mA kI b0 λw6 c6 r c7=>?_⟩;obtain⟨F,H,I⟩:∃F H,w5.heap[j]? =some (.map F H):=by obtain⟨F,H,g,_⟩:=b0.at';exact⟨F,H,g⟩
   have c8:a≠j:=by rintro rfl;rw[a2]at I;cases I
   have c9:ez w6 a f {b7 with asked:=aJ (b7.jD e c).2 d e}:=by
    refine⟨⟨j,a0,_,a1,r.get a2 c8,c6,c2.keep r (Ne.symm b1),fK.aJ (R:=ZO) rfl c3,?_,a3,c5,b1⟩,y.self,λn P=>by rw[c7];exact y.aF n P,y.Kq.aJ _ _,?_⟩
    ·refine c4.mono λJ ys Y=>Y.keep r (λt _ _ l=>?_) (λ_ g=>g)
     rintro rfl;obtain⟨d7,l,d0⟩:=l;rw[I]at l;cases l;exact d0 _ _ rfl
    ·intro t u
     rcases fI u with rfl|u
     ·exact b8
     ·exact y.tB t u
   have z:b7.jD e (c+1)=((b7.jD e c).1++[d],aJ (b7.jD e c).2 d e):=by rw[a7];unfold gE;rw[Zx o]
   have d1:∀n,aG a'=some n->n≠j:=λn P=>by
    rintro rfl;exact a8.VR I P
   refine⟨_,?_,c+1,?_,oM,rfl,?_,oM,by rw[z];exact c9,?_,?_,?_,?_⟩
   ·omega
   ·rw[wrap_i64 cw];simp
   ·rw[z];exact a8.keep r (dy.2 d1)
   ·refine(((T.af h).af q).new E ?_).trans r (λ_ _ g=>g) (by rintro t _ rfl;exact a3)
    intro n P;right;have:=p n P.symm;have:=s.size;omega
   ·refine(((U.af h).af q).keep E (dy.2 λn P Z=>?_)).keep r (dy.2 λn P=>?_)
    ·have:=p n Z.symm;have:=l.lt P;omega
    ·rintro rfl;exact dy.1 b5 n P a3
   ·have:=h.size;have:=q.size;have:=E.size;omega
   ·intro n P
    rcases K with K|K
    ·exact p n (K▸P)
    ·rw[K]at P;cases P;have:=h.size;have:=q.size;omega
  ·have o:=Xy o
   have z:b7.jD e (c+1)=b7.jD e c:=by rw[a7];unfold gE;rw[Zq o]
   refine⟨_,?_,c+1,?_,oM,rfl,by rw[z];exact S.af h,oM,by rw[z];exact C.af h,T.af h,U.af h,Xx b6 h.size,p⟩
   ·omega
   ·rw[wrap_i64 cw];simp
 ·have x:=Xy x
  obtain rfl:c=k:=oM
  refine Ok.mk ⟨v,w,R,rfl,?_,?_,T,λn P=>Xx s.size (p n P)⟩
  ·unfold kC.due;rw[<-O];exact S
  ·unfold kC.SZ;rw[<-O];exact C
structure bL where
 aC:Int
 uO:Int
 bj:Int
 chunk:Int
 buffer:Int
 di:Int
 every:Int
 start:Int
 decl:aT
structure bg where
 S:au
 D:ak
 log:Option dw
 waits:List ah
 gI:kC
def fJ(n:bL)(P:Int):Bool:=
 within n.aC 1 64&&within P 0 (n.aC-1)&&within n.uO 64 262144&&decide (n.bj>=1)&&decide (n.every>=1)&&within n.chunk 1 32&&within n.buffer 1 256&&within n.di 1 1048576&&decide (n.start>=0)
section
variable (c:bL) (self:Int)
def fF(P:bg):Int×bg:=
 let n:=aS P.D c.bj
 if n.no≠0 then(n.no,{P with D:=n.D,log:=none,S:=⟨c.aC.toNat,[]⟩})
 else(0,{P with D:=n.D,log:=some n.V,S:=(⟨c.aC.toNat,[]⟩:au).eD n.out})
def Cg:Int×bg:=fF c ⟨⟨c.aC.toNat,[]⟩,gW c.uO.toNat,none,[],⟨c.di,[],[]⟩⟩
def e_(n:au)(P:List ah):au:=(⟨c.aC.toNat,[]⟩:au).eD (n.l++P)
def de(P:bg)(b:List ah):Int×bg:=match P.log with
 |none=>(15,P)
 |some d=>
  let n:=aE d P.D b
  if n.1≠0 then(n.1,{P with log:=some n.2.1,D:=n.2.2})else
  let a:=n.2.2.sync n.2.1.last
  if a.1≠0 then(a.1,{P with log:=some n.2.1,D:=a.2})else
  (0,{P with log:=some n.2.1,D:=a.2,S:=e_ c P.S b})
def eR(n:bg)(b:lI):Int×(Int×Int)×bg:=match n.log with
 |none=>(15,(0,0),n)
 |some _=>
  let P:=fQ c.decl n.S (bR c.decl n.S.l) self c.start b
  if P.2.2≠0 then(P.2.2,(0,0),n)else
  if P.2.1 then(let a:=de c n [P.1];if a.1≠0 then(a.1,(0,0),a.2)else(0,bd P.1,a.2))
  else(0,bd P.1,n)
def fp(P:bg)(n a:Int):List bV×bg:=
 if n<0\/n>=c.aC\/n=self then([],P)else([lr P.S self n],{P with gI:={P.gI with asked:=aJ P.gI.asked n a}})
def pS(a:bg)(n:Int):List bV×bg:=((a.gI.due n).map λP=>lr a.S self P,{a with gI:=a.gI.SZ n})
def gV(n:Nat):List ah->au->List ah->List ah->au×List ah×List ah
 |[],a,P,b=>(a,P,b)
 |e::c,a,P,b=>
  if(a.add e).1=0 then gV n c (a.add e).2 (P++[e]) b
  else if(a.add e).1=16 then gV n c a P b
  else gV n c a P (eV n b e).2
def eG:List ah->au->List ah->au×List ah
 |[],P,n=>(P,n)
 |e::a,P,n=>if(P.add e).1=0 then eG a (P.add e).2 (n++[e])else eG a (P.add e).2 n
def pU:Nat->au->List ah->List ah->List ah×List ah
 |0,a,n,b=>(n,b)
 |k+1,a,n,b=>
  let P:=bF a b
  if P.1=[]then(n,P.2)else
  let c:=eG P.1 a n
  pU k c.1 c.2 P.2
def gK(P:bg)(a:List ah):List ah×List ah:=
 let n:=gV c.buffer.toNat a (e_ c P.S []) [] P.waits
 pU (n.2.2.length+1) n.1 n.2.1 n.2.2
def lH(n:bg)(a:bV):List bV×Int×bg:=
 let b:=gK c n a.events
 let n:={n with waits:=b.2}
 if b.1=[]then([Am n.S self a.bM],0,n)else
 let P:=de c n b.1
 if P.1≠0 then([],P.1,{P.2 with waits:=[]})else([Am P.2.S self a.bM],0,P.2)
def cu(n:bg)(P:bV):List bV×Int×bg:=match n.log with
 |none=>([],15,n)
 |some _=>
  let no:=ei P c.aC.toNat c.chunk
  if no≠0 then([],no,n)else
  if P.mL≠self then([],1,n)else
  if P.kind=3 then lH c self n P else
  let n:={n with gI:=n.gI.Ao P.bM P.vec n.S.vec}
  if P.kind≠4 then(mM n.S self P c.chunk,0,n)else
  let a:=n.S.missing P.vec c.chunk
  if a=[]then([],0,n)else([⟨3,self,P.bM,[],a⟩],0,n)
def ie(P:bg)(n:Int):Int×bg:=fF c {P with D:=dv (P.D.ey n),waits:=[],gI:=⟨P.gI.di,[],[]⟩}
def dd(n:bg):Int×bg:=match n.log with
 |none=>(15,n)
 |some a=>
  let P:=aQ a n.D n.S.l c.bj
  if P.no≠0 then(P.no,{n with D:=P.D})else(0,{n with D:=P.D,log:=some P.V})
end
def LO:lA:=⟨[(2,[(10,WP 0)])],[],[],[],[]⟩
def LP(i:(∃f:Nat->Int->ba,(∃P,f P 0 b)/\∀(P:Nat) (n:Int) (q:Nat->Value) (g:World),f P n g->al (decide (n<(a:Int))) ((ix_ d n a λj k=>PS g (ad j (k+Int.toNat n*5+1)) (.ii e) λl=>(ix_ d n a λm o=>PS l (ad m (o+Int.toNat n*5+2)) (.ii r) λp=>(∃h,h<P/\f h (PP .i64 (n+1)) p)))) (rt A ((.slice d a c)) g))):be 194 #[.ii e,.ii r,.slice d a c] b A:=DC LO Tryz.func194 rfl i
structure KE where
 m:bV
 va:bc
 vn:Nat
 vc:Nat
 ea:bc
 en:Nat
 ec:Nat
def Ph:ky KE:=flat 5 (λn=>eh n.m n.va n.vn n.vc n.ea n.en n.ec) (λ_=>True) (λ_=>rfl) (λa b P=>by
 simp only[eh,Q2,List.not_mem_nil,or_false]at P;rcases P with rfl|rfl|rfl|rfl|rfl<;>rfl)
def KE.In(P:World)(D:UK)(n:KE):Prop:=Row aP 8 P D n.va n.vn n.m.vec/\Row lb 96 P D n.ea n.en n.m.events
def EN:kD LL 69 127 Ph.k 72:=⟨kR,kR,dC⟩
def bq(b:World)(f:List bV)(g:Value)(a:World):Prop:=
 ∃(P:bc) (d e:Nat) (c:List KE) (D:UK),g= .slice P d e/\aU Ph 127 (λn=>aG P=some n) a P d e c/\c.map (·.m)=f/\(∀n∈c,n.In a D)/\(∀n,D n->b.heap.size<=n/\n<a.heap.size/\aG P≠some n)/\(∀n,aG P=some n->b.heap.size<=n)/\ai b a
section
variable {w w':World} {p:Nat} {F D:UK} {S:au} {a:bc} {n c:Nat}
def KE.In.keep{n:KE}(P:n.In w D)(a:aj f w w')(b:∀n,D n->¬f n):n.In w' D:=⟨P.1.keep a b,P.2.keep a b⟩
def KE.In.mono{n:KE}(P:n.In w D)(a:∀n,D n->f n):n.In w f:=⟨P.1.mono a,P.2.mono a⟩
def dA{n:ky j}{bytes:Nat}(w:World)(D:UK):Row n bytes w D none 0 []:=⟨rfl,sM,λa b P=>by simp at P⟩
def bq.nil(w:World):bq w [] (.slice none 0 0) w:=⟨none,0,0,[],λ_=>False,rfl,(aU.nil w).mono (λP n=>n.elim) (λP n=>(by cases n)),rfl,sM,λP n=>n.elim,λP n=>(by cases n),aj.refl _⟩
def bq.af(f:bq b a8 v w)(e:ai w w'):bq b a8 v w':=by
 obtain⟨a,n,c,h,D,i,j,k,l,g,m,o⟩:=f;exact⟨a,n,c,h,D,i,j.af e,k,λP d=>(l P d).keep e λ_ _ f=>f,λP d=>⟨(g P d).1,by have:=e.size;have:=(g P d).2.1;omega,(g P d).2.2⟩,m,o.then e⟩
def bq.push{r L:TypeId}(s:bq b a8 (.slice a n c) w)(M:kD h r 127 Ph.k 72){m:bV}{i j k l y:Nat}{E:UK}(N:(⟨m,d,i,j,x,k,l⟩:KE).In w E)(z:∀P,E P->b.heap.size<=P/\P<w.heap.size/\aG a≠some P)(O:w.heap[y]? =some (.cells (eh m d i j x k l).toArray 127 C))(V:a8.length<=1000)(u:∀f g w',bq b (a8++[m]) (.slice f (n+1) g) w'->aj (λP=>aG a=some P) w w'->o (.slice f (n+1) g) w'):
  aK h (Builtin.append_ #[r,r] L #[.slice a n c,.slice (UV y) 1 1]) w o t:=by
 obtain⟨W,X,Y,v,D,Q,R,A,S,B,F,H⟩:=s
 cases Q
 have Z:v.length=a8.length:=by rw[<-A,Q8]
 refine fM (c:=Ph) (x:=⟨m,d,i,j,x,k,l⟩) (D:=λ_=>False) R M O ⟨rfl,trivial⟩ (λP e=>e.elim) ce (by unfold maxLen;omega) λf g w' F' p q T=>?_;have I:∀P,aG f=some P->aG a=some P\/w.heap.size<=P:=λP e=>(T P (p.self P e)).imp id λs=>s.resolve_left id;have a0:=q.size;have z7:=H.size;refine u f g w' ⟨f,n+1,g,v++[⟨m,d,i,j,x,k,l⟩],λP=>D P\/E P,rfl,(show aU Ph 127 (λP=>aG f=some P) w' f (n+1) g (v++[⟨m,d,i,j,x,k,l⟩])from p.alone),by rw[Q3,A];rfl,λP e=>?_,λP e=>?_,λP e=>?_,H.new q λP e=>.inr (F P e)⟩ q
 ·rcases Q6.1 e with e|e
  ·exact((S P e).keep q λP e=>(B P e).2.2).mono λP e=>.inl e
  ·simp at e;subst e
   exact(N.keep q λP e=>(z P e).2.2).mono λP e=>.inr e
 ·have J:b.heap.size<=P/\P<w.heap.size/\aG a≠some P:=e.elim (B P) (z P)
  exact⟨J.1,oM,λU=>(I P U).elim J.2.2 oM⟩
 ·rcases I P e with K|K
  ·exact F P K
  ·omega
def Oe(z:bq b a8 (.slice a n c) w)(O:a8.length<=1000):
  be 194 #[WP e,WP r,.slice a n c] w (Ok λA w'=>bq b (a8.map λm=>{m with bM:=e,mL:=r}) A w'):=by
 obtain⟨Q,R,S,d,D,B,s,x,C,o,y,E⟩:=z
 cases B
 have T:d.length=a8.length:=by rw[<-x,Q8]
 have U:=s.len dC;obtain⟨g,j⟩:∃g:KE->KE,g=λf=>{f with m:={f.m with bM:=e,mL:=r}}:=⟨_,rfl⟩
 refine LP ⟨λm h w'=>∃P:Nat,h=P/\P<=n/\m=n-P/\aU Ph 127 (λf=>aG a=some f) w' a n c ((d.take P).map g++d.drop P)/\aj (λf=>aG a=some f) w w',⟨_,0,rfl,Qj _,rfl,by simpa using s,aj.refl _⟩,?_⟩;rintro m _ _ V ⟨P,rfl,W,rfl,t,p⟩;refine al.dec (λX=>?_) (λY=>?_)
 ·have q:d[P]? =some d[P]:=Qq oM
  have k:∃l,a=UV l:=by
   obtain⟨cs,D,F,-⟩:=s.body;rcases F.cases with⟨_,Z,_,_⟩|⟨l,H,rfl,_⟩
   ·omega
   ·exact⟨l,rfl⟩
  obtain⟨l,k⟩:=k;have u:((d.take P).map g++d.drop P)[P]? =some d[P]:=by
   rw[X8 cS];simp[Qy,X2 (show P<=d.length by omega)]
  generalize d[P]=h at q u;have I:P<((d.take P).map g++d.drop P).length:=(Qv.1 u).1;refine⟨l,0,k,oM,oM,?_⟩;rw[Qx];refine aU.set (x':={h with m:={h.m with bM:=e}}) (j:=1) t u dC rfl k λa3 J K a4=>⟨l,0,k,oM,oM,?_⟩
  refine aU.set (x:={h with m:={h.m with bM:=e}}) (x':=g h) (j:=2) J (by rw[List.getElem?_set_self I]) dC (by rw[j];rfl) k λa5 v L a6=>⟨_,?_,P+1,aq oM,oM,rfl,?_,(p.then K).then L⟩
  ·omega
  ·rw[List.set_set]at v
   have M:((d.take P).map g++d.drop P).set P (g h)=(d.take (P+1)).map g++d.drop (P+1):=by
    have N:((d.take P).map g).length=P:=by simp;omega
    rw[Qw,q,Q3,XQ,List.set_append,Zq oM,N,Nat.sub_self,X4 (show P<d.length by omega)];rfl
   rw[M]at v;exact v
 ·obtain rfl:P=n:=oM
  rw[Qz oM,List.drop_eq_nil_of_le oM,List.append_nil]at t;refine Ok.mk ⟨a,P,c,d.map g,D,rfl,t,?_,λf i=>?_,λf i=>⟨(o f i).1,by have:=p.size;have:=(o f i).2.1;omega,(o f i).2.2⟩,y,E.new p λf i=>.inr (y f i)⟩
  ·rw[<-x,List.map_map,List.map_map,j];rfl
  ·obtain⟨h,q,rfl⟩:=Xk.1 i
   have:=(C h q).keep p λf i=>(o f i).2.2;rw[j];exact this
end
section
variable {w w':World} {p:Nat} {F D E:UK} {S:au} {m:bV} {va ea:bc} {vn vc en ec:Nat}
def bq.H_(d:bq b a8 v w)(a:ai w' b):bq w' a8 v w:=by
 obtain⟨e,f,g,h,D,i,j,k,l,c,m,o⟩:=d;have:=a.size;exact⟨e,f,g,h,D,i,j,k,l,λn P=>⟨by have:=(c n P).1;omega,(c n P).2⟩,λn P=>by have:=m n P;omega,a.then o⟩
def bq.len(n:bq b a8 (.slice d a c) w):a=a8.length:=by
 obtain⟨g,h,i,j,D,P,e,f,-⟩:=n
 cases P
 rw[e.len dC,<-f,Q8]
def bq.sl(n:bq b a8 v w):∃P a c,v= .slice P a c:=by
 obtain⟨e,f,g,h,D,d,-⟩:=n;exact⟨_,_,_,d⟩
def JW(h:cM w p F S)(hl:S.l.length<=20000000)(Z:Row aP 8 w D va vn m.vec):
  be 121 #[RK p,WP e,iV m va vn vc ea en ec,WP r] w (Ok (bq w (mM S e m r))):=by
 have hS:=h.1;have hN:=hS.n;refine DI (PA.mk λa l g0 x=>⟨λw'=>a=w'/\(m.kind=1\/m.kind=2),⟨_,ae x rfl,al.eK (λo=>⟨_,ae x rfl,al.eK (λc=>Ok.mk ?_) (λc=>⟨rfl,.inr c⟩)⟩) (λo=>⟨rfl,.inl o⟩)⟩,?_⟩)
 ·unfold mM;rw[Zx ⟨o,c⟩];exact(bq.nil a).H_ l
 rintro _ _ ⟨rfl,hk⟩;have b9:¬(m.kind≠1/\m.kind≠2):=oM
 obtain⟨s,K⟩:∃s,s=S.missing m.vec (max 1 (min r 32)):=⟨_,rfl⟩
 have b4:(if(if 32<r then 32 else r)>1 then(if 32<r then 32 else r)else 1)=max 1 (min r 32):=by split<;>split<;>omega
 obtain⟨d,E⟩:∃d:List bV,d=if 0<s.length then [⟨3,0,0,[],s⟩]else []:=⟨_,rfl⟩
 have g1:d.length<=1:=by rw[E];split<;>simp
 refine⟨λg i j w'=>bq a d (.slice g i j) w'/\ai a w',⟨_,_,_,ae x rfl,?_⟩,?_⟩
 ·refine PC.ok (by rw[b4];exact yY (h.af l) hl (Z.af l)) ?_
  rw[<-K];rintro _ g2 ⟨b7,n2,y,G,rfl,L,H,hG⟩;have g3:=L.len dC;have e1:=L.aF;refine⟨_,_,_,rfl,al.dec (λf6=>PA.mk λg4 M g5 e2=>?_) (λhz=>⟨?_,H⟩)⟩
  rotate_left
  ·rw[E,Zq oM]
   exact(bq.nil a).af H
  have g6:s.length<=20000000:=by
   rw[K];unfold au.missing;rw[Qy];have:=List.length_filter_le (λf:ah=>decide (max 0 (fY m.vec f.origin)<f.seq)) S.l;omega
  refine bq.push (m:=⟨3,0,0,[],s⟩) (E:=G) ((bq.nil a).af (H.then M)) EN ⟨dA _ _,(L.af M).row dC ce⟩ (λn P=>⟨by have:=hG n P;omega,by have:=e1 n P;omega,λf=>by cases f⟩) e2 sM λa' c' g7 c4 e3=>⟨_,_,_,rfl,?_,?_⟩
  ·rw[E,Zx oM];exact c4
  ·exact(H.then M).new e3 λn P=>(by cases P)
 rintro I on oc _ e4 ⟨N,O⟩;have a0:=l.then O;have e5:=O.size;refine PC.ok (mK (h.af a0)) ?_;rintro _ u ⟨a3,n3,c3,G3,rfl,c6,c7,c8⟩;have g8:=a0.size;have c9:=c6.aF;have d0:Row aP 8 u G3 a3 n3 S.vec:=c6.row dC (by rw[S.bT];unfold aR;omega);obtain⟨b,v⟩:∃b:List bV,b=if m.kind=1/\(nh m.vec S.vec=2\/nh m.vec S.vec=3)then [⟨2,0,0,S.vec,[]⟩]else []:=⟨_,rfl⟩
 have g9:b.length<=1:=by rw[v];split<;>simp
 have z:=O.then c7;have Q:∀n,aG I=some n->n<e4.heap.size:=λn P=>by
  obtain⟨a1,n1,t,a2,D,k,c,-⟩:=N
  cases k
  exact c.aF n P
 refine⟨_,_,_,rfl,λg i j w'=>bq a (d++b) (.slice g i j) w'/\w'.heap[w.heap.size]? =some (.cells (eh m va vn vc ea en ec).toArray 127 (0,0))/\ai a w',⟨_,_,_,ae (z.get x id) rfl,PC.ok (Oc ((Z.af (l.then z)).ub) d0.ub) ?_⟩,?_⟩
 ·rintro _ _ ⟨rfl,rfl⟩
  have R:=z.get x id;have a4:=N.af c7;have q:∀n,aG I=some n->a.heap.size<=n:=λn P=>by
   obtain⟨a1,n1,t,a2,D,k,c,A,h4,h5,T,h7⟩:=N
   cases k
   exact T n P
  have no:b=[]->bq a (d++b) (.slice I on oc) u/\u.heap[w.heap.size]? =some (.cells (eh m va vn vc ea en ec).toArray 127 (0,0))/\ai a u:=λP=>⟨by rw[P,List.append_nil];exact a4,R,z⟩
  have B:∀{ε:ac} {U:bc->Nat->Nat->ba},b=[⟨2,0,0,S.vec,[]⟩]->(∀g i j w',bq a (d++b) (.slice g i j) w'/\w'.heap[w.heap.size]? =some (.cells (eh m va vn vc ea en ec).toArray 127 (0,0))/\ai a w'->U g i j w')->
    PA u (.cells #[WP 2,WP 0,WP 0,.slice a3 n3 c3,.slice none 0 0] 127) λd1=>aK LL (Builtin.append_ #[69,69] 69 #[.slice I on oc,.slice (UV u.heap.size) 1 1]) d1 (λe6 d2=>∃(a5:bc) (a6:Nat) (a7:Nat),e6= .slice a5 a6 a7/\U a5 a6 a7 d2) ε:=λ{ε U} P V=>by
   refine PA.mk λd1 J h8 e7=>bq.push (m:=⟨2,0,0,S.vec,[]⟩) (E:=G3) (a4.af J) EN ⟨d0.af J,dA _ _⟩ (λn P=>⟨by have:=c8 n P;omega,by have:=c9 n P;omega,λf=>by have:=Q n f;have:=c8 n P;omega⟩) e7 oM λa' c' d2 d3 d4=>⟨_,_,_,rfl,V _ _ _ _ ⟨by rw[P];exact d3,d4.get (J.get R id) λf=>?_,?_⟩⟩
   ·have:=q _ f;omega
   ·exact(z.then J).new d4 λn P=>.inr (q n P)
  refine⟨_,rfl,_,ae R rfl,al.eI (λo=>al.eI (λc=>B (by rw[v,Zx ⟨o,.inl c⟩]) λg i j w' h=>h) (λc=>al.eI (λA=>B (by rw[v,Zx ⟨o,.inr A⟩]) λg i j w' h=>h) (λA=>no (by rw[v,Zq];rintro⟨-,h|h⟩;exact c h;exact A h)))) (λo=>no (by rw[v,Zq λh=>o h.1]))⟩
 rintro e8 h9 i0 _ e9 ⟨C,W,a8⟩;have d5:=l.then a8;have f2:=a8.size;have a9:=C.len;have f8:(d++b).length<=2:=by rw[QX];omega
 have b0:∀{X:List bV},(if(d++b).isEmpty then [Am S e m.bM]else(d++b).map λb5=>{b5 with bM:=e,mL:=m.bM})=X->mM S e m r=X:=λ{X} hq=>by
  rw[<-hq];unfold mM;rw[Zq b9,<-K];rw[E,v];have p1:(decide (nh m.vec S.vec=2\/nh m.vec S.vec=3))=decide (nh m.vec S.vec=2\/nh m.vec S.vec=3):=rfl
  by_cases t:0<s.length<;>by_cases y:m.kind=1/\(nh m.vec S.vec=2\/nh m.vec S.vec=3)
  ·simp[t,y]
  ·simp[t,y]
  ·simp[t,y]
  ·simp[t,y]
 refine al.eI (λh0=>⟨_,ae W rfl,PC.ok (JL (h.af d5)) ?_⟩) (λh0=>⟨_,ae W rfl,PC.ok (Oe C oM) ?_⟩)
 ·have k:d++b=[]:=QW oM
  rintro _ i1 ⟨b8,n5,c5,G5,rfl,d6,d7,d8⟩;have d9:=d6.aF;rw[k]at C;refine⟨_,_,_,_,_,_,_,_,_,rfl,PA.mk λi2 Y i3 f4=>?_⟩;have b1:∀n,aG e8=some n->a.heap.size<=n/\n<e9.heap.size:=λn P=>by
   obtain⟨a1,n1,t,a2,D,k,c,A,h4,h5,T,h7⟩:=C
   cases k
   exact⟨T n P,c.aF n P⟩
  refine bq.push (m:=Am S e m.bM) (E:=G5) (C.af (d8.then Y)) EN ⟨(d6.af Y).row dC (by show S.vec.length*8<=aR;rw[S.bT];unfold aR;omega),dA _ _⟩ (λn P=>⟨by have:=d7 n P;have:=d5.size;omega,by have:=d9 n P;omega,λf=>by have:=(b1 n f).2;have:=d7 n P;omega⟩) f4 sM λa' c' i4 e0 f5=>⟨_,_,_,rfl,_,ae (f5.get ((d8.then Y).get W id) λf=>by have:=(b1 _ f).1;omega) rfl,?_⟩
  refine PC.ok (Oe e0 sM) ?_;rintro b6 i5 b2;obtain⟨g,i,j,rfl⟩:=b2.sl;refine⟨_,_,_,rfl,Ok.mk ?_⟩;rw[b0 (Zx (by rw[k];rfl))];exact b2.H_ l
 ·rintro b6 i6 b3
  obtain⟨g,i,j,rfl⟩:=b3.sl;refine⟨_,_,_,rfl,Ok.mk ?_⟩;rw[b0 (Zq (by
   intro k;have:d++b=[]:=by simpa using k
   rw[this]at a9;simp at a9;omega))]
  exact b3.H_ l
end
def iX(n:lI):List Value:=[WP n.aZ,WP n.agg,WP n.field,WP n.op,WP n.arg,WP n.expect,WP n.key]
abbrev xo(n:lI):Value:=.agg (iX n).toArray
def yv(n:lI):iQ LL 38 (iX n)=true:=kR
section
variable {w w':World} {D:UK}
def Dz{tn m k o:Nat}(p:fw w)(h:bu w D S d tn x k)(q:∀a,D a->a<w.heap.size):
  be 125 #[.agg #[.slice d tn m,.slice x k o],xo d1] w (Ok λe w'=>e= WP (ki S d1)/\ai w w'):=by
 refine zF (PA.mk λu r v b=>PA.mk λs l y n=>?_);have b:=l.get b id;have c:=r.then l;have P:(d1.agg<0\/d1.key<0\/d1.expect< -1)->Ok (λe w'=>e= WP (ki S d1)/\ai w w') (.returned (WP 1)) s:=λf=>Ok.mk ⟨by unfold ki;rw[Zx f],c⟩;refine⟨_,ae n rfl,al.dec (λg=>P (.inl g)) (λg=>⟨_,ae n rfl,al.dec (λi=>P (.inr (.inl i))) (λi=>⟨_,ae n rfl,al.dec (λj=>P (.inr (.inr j))) (λj=>⟨_,_,_,_,_,_,ae b rfl,ae b rfl,_,ae n rfl,_,ae n rfl,_,ae n rfl,_,ae n rfl,PC.ok (yx (p.af c) (h.af c) λa f=>by have:=q a f;omega) ?_⟩)⟩)⟩)⟩;rintro _ z ⟨rfl,t⟩;exact⟨_,rfl,Ok.mk ⟨by unfold ki;rw[Zq (by rintro(h|h|h);exact g h;exact i h;exact j h)],c.then t⟩⟩
def GD(a:∀b∈s,aM b)(n:Int):0<=fY s n/\fY s n<=9223372036854775807:=by
 unfold fY;split
 ·omega
 ·by_cases P:n.toNat<s.length
  ·have:=a _ (XY P)
   unfold aM at this;simp only[QQ,Qq P,Option.getD_some];omega
  ·simp only[QQ,Q7 (Nat.le_of_not_lt P),Option.getD_none]
   omega
def ON(n P:List Int):(kZ n P).length=max n.length P.length:=by unfold kZ;rw[tx]
def Ud(P a:List Int)(d:∀n∈P,aM n)(e:∀n∈a,aM n):∀n∈kZ P a,aM n:=by
 intro n b;unfold kZ qS at b;obtain⟨c,-,rfl⟩:=Xk.1 b;have f:=GD d c;have g:=GD e c;unfold aM;omega
def jX(Q:Row aP 8 w D d a s)(hl:r<=9223372036854775807)(hn:s.length<=20000000):
  be 132 #[xo d1,WP e,.slice d a c,WP r] w (Ok λv w'=>∃d a j G,v= .tuple #[kU (aX d1 e s r).2 d a j,WP (aX d1 e s r).1]/\Row aP 8 w' G d a (aX d1 e s r).2.aN/\(∀n,G n->w.heap.size<=n/\n<w'.heap.size)/\ai w w'):=by
 have a9:=Q.len;have A:=Q.ub;refine zG (PA.mk λB k1 s1 K=>PA.mk λL R s2 S=>?_);have K:=R.get K id;have j:=k1.then R;have k:∀{m:World} {no:Int},ai L m->aX d1 e s r=(no,sN)->oJ LL 63 (RK B.heap.size) (kU sN none 0 0) m λw4=>jW LL 63 (RK B.heap.size) w4 λv=>Ok (λv w'=>∃d a j G,v= .tuple #[kU (aX d1 e s r).2 d a j,WP (aX d1 e s r).1]/\Row aP 8 w' G d a (aX d1 e s r).2.aN/\(∀n,G n->w.heap.size<=n/\n<w'.heap.size)/\ai w w') (.returned (.tuple #[v,WP no])) w4:=λ{m no} C T=>
  aD (bh sN none 0 0) (C.get S id) rfl λw4 l s4 M=>ar (bh sN none 0 0) M (Ok.mk ⟨none,0,0,λ_=>False,by rw[T],by rw[T];exact Row.nil _ _,λn P=>P.elim,(j.then C).new l λn P=>.inr oM⟩)
 refine al.dec (λU=>k (aj.refl _) ?_) (λU=>al.dec (λh2=>k (aj.refl _) ?_) (λh2=>al.dec (λC=>k (aj.refl _) ?_) (λC=>PC.ok (oT (A.af j)) ?_)))
 ·unfold aX;rw[Zx (.inl U)]
 ·unfold aX;rw[Zx (.inr (.inl oM))]
 ·unfold aX;rw[Zx (.inr (.inr C))]
 rintro _ _ ⟨rfl,rfl⟩;have N:¬(e<0\/(s.length:Int)<=e\/r<0):=by rintro(h|h|h)<;>omega
 refine⟨_,rfl,al.eI (λJ=>k (aj.refl _) ?_) (λJ=>al.eI (λE=>k (aj.refl _) ?_) (λE=>λm V=>?_))⟩
 ·unfold aX;rw[Zq N,Zx (.inl J)]
 ·unfold aX;rw[Zq N,Zx (.inr E)]
 have hg:=GD A.Ar e;have wl:PP .i64 (r+1)=r+1:=wrap_i64 cw;have ws:PP .i64 (fY s e+1)=fY s e+1:=wrap_i64 (by unfold aM;have:fY s e≠9223372036854775807:=J;omega);have W:aX d1 e s r=(0,⟨e,PP .i64 (fY s e+1),PP .i64 (r+1),kZ s [],d1.aZ,d1.agg,d1.field,d1.op,d1.arg,d1.key⟩):=by
  unfold aX;rw[Zq N,Zq (by rintro(h|h);exact J h;exact E h),wl,ws]
 have F:ai L m:=V.keep;have s3:m.heap.size=L.heap.size:=by rw[V.heap]
 have X:=j.then F;have y:=F.get K id;have Y:=F.get S id;have jl:(kZ s []).length<=20000000:=by rw[ON];simp;omega
 have jI:∀a0∈kZ s [],aM a0:=Ud s [] A.Ar sM;have z:¬(m.heap.size<=w.heap.size):=oM
 have H:∀{w4 q:World} {b:bc} {g i x:Nat},ai w q->Own q 3 1 b g i (ints (kZ s []))->(∀n,aG b=some n->m.heap.size<=n/\n≠x)->q.heap[B.heap.size]? =some (.cells (aI sN none 0 0).toArray 63 (0,0))->q.heap[x]? =some (.cells #[WP 0,WP 0,WP (PP .i64 (r+1)),.slice b g i,WP d1.aZ,WP d1.agg,WP d1.field,WP d1.op,WP d1.arg,WP d1.key] 63 (0,0))->m.heap.size<=x->
   PS q ⟨x,0,none⟩ (WP e) λa4=>PS a4 ⟨x,0+1,none⟩ (WP (PP .i64 (fY s e+1))) λZ=>jW LL 63 (RK x) Z λa5=>oJ LL 63 (RK B.heap.size) a5 Z λa2=>jW LL 63 (RK B.heap.size) a2 λa6=>Ok (λv w'=>∃d a j G,v= .tuple #[kU (aX d1 e s r).2 d a j,WP (aX d1 e s r).1]/\Row aP 8 w' G d a (aX d1 e s r).2.aN/\(∀n,G n->w.heap.size<=n/\n<w'.heap.size)/\ai w w') (.returned (.tuple #[a6,WP 0])) a2:=λ{w4 q b g i x} E t o hz a7 b0=>by
  refine PS.mk a7 sM λw6 f s6 I=>PS.mk I sM λw7 O s7 g7=>?_;have a8:=O.get (f.get hz oM) oM;refine ar (cs:=aI ⟨e,PP .i64 (fY s e+1),PP .i64 (r+1),kZ s [],d1.aZ,d1.agg,d1.field,d1.op,d1.arg,d1.key⟩ b g i) (bh _ _ _ _) g7 (aD (bh _ _ _ _) a8 rfl λw8 k8 s8 g8=>ar (bh _ _ _ _) g8 (Ok.mk ⟨b,g,i,λn=>aG b=some n,by rw[W],?_,λn P=>⟨by have:=o n P;omega,?_⟩,?_⟩))
  ·rw[W]
   have a3:=(((t.keep f (dy.2 λn P u=>(o n P).2 u)).keep O (dy.2 λn P u=>(o n P).2 u)).keep k8 (dy.2 λn P u=>by have:=o n P;omega))
   exact(⟨⟨_,λ_=>False,a3,lz.2 ⟨rfl,jI⟩,λ_ h=>h.elim⟩,λn P=>P,λn P=>a3.lt P⟩:aU aP 3 (λn=>aG b=some n) w8 b g i (kZ s [])).row dC ce
  ·have:=t.lt P;omega
  ·exact((E.new f λn P=>.inr oM).new O λn P=>.inr oM).new k8 λn P=>.inr oM
 refine⟨λn=>m.heap.size<=n,z,_,ae y rfl,z,_,ae y rfl,z,_,ae y rfl,z,_,ae y rfl,z,_,ae y rfl,z,_,ae y rfl,PC.ok (Bo ((A.af j).af F) (Ints.nil _)) ?_,PA.mk λw4 l s4 M=>⟨ai.keep l,PC.ok (Bo (((A.af j).af F).af l) (Ints.nil _)) ?_⟩⟩
 ·rintro _ w4 ⟨b,g,i,rfl,t,l,o⟩
  have z4:=l.size;refine⟨_,_,_,rfl,ai.keep l,PA.mk λq p s5 g5=>⟨ai.keep p,aD (cs:=[WP 0,WP 0,WP (PP .i64 (r+1)),.slice b g i,WP d1.aZ,WP d1.agg,WP d1.field,WP d1.op,WP d1.arg,WP d1.key]) (bh ⟨0,0,PP .i64 (r+1),[],d1.aZ,d1.agg,d1.field,d1.op,d1.arg,d1.key⟩ b g i) g5 rfl λw6 f s6 I=>⟨f.mono λn _ u=>oM,H (w4:=w4) (((X.then l).then p).new f λn P=>.inr oM) ((t.af p).keep f (dy.2 λn P u=>by have:=t.lt P;omega)) (λn P=>⟨o n P,by have:=t.lt P;omega⟩) (f.get (p.get (l.get Y id) id) oM) I oM⟩⟩⟩
 ·rintro _ q ⟨b,g,i,rfl,t,p,o⟩
  have z5:=p.size;refine⟨_,_,_,rfl,ai.keep p,aD (cs:=[WP 0,WP 0,WP (PP .i64 (r+1)),.slice b g i,WP d1.aZ,WP d1.agg,WP d1.field,WP d1.op,WP d1.arg,WP d1.key]) (bh ⟨0,0,PP .i64 (r+1),[],d1.aZ,d1.agg,d1.field,d1.op,d1.arg,d1.key⟩ b g i) (p.get M id) rfl λw6 f s6 I=>⟨f.mono λn _ u=>oM,H (w4:=w4) (((X.then l).then p).new f λn P=>.inr oM) (t.keep f (dy.2 λn P u=>by have:=o n P;omega)) (λn P=>⟨by have:=o n P;omega,by have:=o n P;omega⟩) (f.get (p.get (l.get Y id) id) oM) I oM⟩⟩
end
section
variable {w w':World} {D Fs Fv:UK} {s v:Nat} {S:au} {V:bf} {d:aT} {c:lI} {origin start:Int}
def wN(w:World)(n:ah×Bool×Int)(c:Value)(w':World):Prop:=∃a b d G,c= .tuple #[kU n.1 a b d,.bool n.2.1,WP n.2.2]/\Row aP 8 w' G a b n.1.aN/\(∀P,G P->w.heap.size<=P/\P<w'.heap.size)/\ai w w'
def ym(d:aT)(s:au)(v:bf)(origin start:Int)(c:lI):fQ d s v origin start c=if ki d c≠0 then(sN,false,ki d c)else
  match s.keyed c.key with
  |some n=>(n,false,0)
  |none=>if¬(c.expect= -1\/c.expect=((v.state c.aZ c.agg).getD ⟨0,[]⟩).version)then(sN,false,11)else
   if xj (d.at c.aZ) (match v.state c.aZ c.agg with|some P=>P.cells|none=>ef (d.at c.aZ)) c.field c.op c.arg≠0 then(sN,false,10)else
   ((aX c origin s.vec (max s.top start)).2,decide ((aX c origin s.vec (max s.top start)).1=0),(aX c origin s.vec (max s.top start)).1):=rfl
def Ee{ta pa:bc}{tn tc pn pc:Nat}(hT:fw w)(hd:bu w D d ta tn pa pn)(hD:∀n,D n->n<w.heap.size)(j0:dt d=0)(hs:cM w s Fs S)(j1:S.l.length<=20000000)(hv:cJ w v Fv V)(j2:V.decl=d)(o4:start<=9223372036854775807)(o1:S.top<=9223372036854775807):
  be 80 #[.agg #[.slice ta tn tc,.slice pa pn pc],RK s,RK v,WP origin,WP start,xo c] w (Ok (wN w (fQ d S V origin start c))):=by
 refine zN (PA.mk λw1 k1 s1 g1=>PA.mk λw2 k2 s2 g2=>PA.mk λw3 k3 s3 g3=>?_);have q:=(k1.then k2).then k3;have gd:=k3.get (k2.get g1 id) id;have gc:=k3.get g2 id;have y:∀{z:World} {no:Int},ai w3 z->fQ d S V origin start c=(sN,false,no)->oJ LL 63 (RK w2.heap.size) (kU sN none 0 0) z λt=>jW LL 63 (RK w2.heap.size) t λr=>Ok (wN w (fQ d S V origin start c)) (.returned (.tuple #[r,.bool false,WP no])) t:=λ{z no} h4 Q=>
  aD (bh sN none 0 0) (h4.get g3 id) rfl λt k5 s5 g5=>ar (bh sN none 0 0) g5 (Ok.mk ⟨none,0,0,λ_=>False,by rw[Q],by rw[Q];exact Row.nil _ _,λn P=>P.elim,(q.then h4).new k5 λn P=>.inr oM⟩)
 refine⟨_,_,_,_,_,_,ae gd rfl,ae gd rfl,ar (yv c) gc (PC.ok (Dz (hT.af q) (hd.af q) λn P=>by have:=hD n P;omega) ?_)⟩;rintro _ z ⟨rfl,R⟩;refine⟨_,rfl,al.eK (λT=>y R (by rw[ym,Zx T])) (λe5=>⟨_,ae (R.get gc id) rfl,PC.ok (Qf (hs.af (q.then R)) j1) ?_⟩)⟩;rintro _ t ⟨U,W,X,G5,rfl,e6,e7,k5⟩;have b5:=R.then k5;have o5:=b5.size;have A:∀{r:ah×Bool×Int},(match S.keyed c.key with
  |some k=>(k,false,0)
  |none=>if¬(c.expect= -1\/c.expect=((V.state c.aZ c.agg).getD ⟨0,[]⟩).version)then(sN,false,11)else
   if xj (d.at c.aZ) (match V.state c.aZ c.agg with|some B=>B.cells|none=>ef (d.at c.aZ)) c.field c.op c.arg≠0 then(sN,false,10)else
   ((aX c origin S.vec (max S.top start)).2,decide ((aX c origin S.vec (max S.top start)).1=0),(aX c origin S.vec (max S.top start)).1))=r->fQ d S V origin start c=r:=λ{r} hr=>by
  rw[ym,Zq (by simpa using e5)];exact hr
 refine cA (sK _ U W X) ⟨_,rfl,PA.mk λw6 k6 s6 g6=>aD (bh _ U W X) g6 rfl λl k7 s7 g7=>al.mk (λhk=>?_) (λhk=>?_)⟩
 ·obtain⟨k,Q⟩:=Option.isSome_iff_exists.1 hk
  rw[Q]at e6 g7 A;have b1:ai t l:=k6.new k7 λn P=>.inr oM;refine ar (bh _ U W X) g7 (aD (bh _ U W X) (b1.get (b5.get g3 id) id) rfl λw8 k8 s8 g8=>ar (bh _ U W X) g8 (Ok.mk ⟨U,W,X,G5,?_,?_,λn P=>?_,?_⟩))
  ·rw[A rfl];rfl
  ·rw[A rfl]
   exact(e6.af b1).keep k8 λn P k=>by have:=e7 n P;have:=q.size;have:=R.size;omega
  ·have:=e7 n P;have:=q.size;have:=R.size;omega
  ·exact((q.then b5).then b1).new k8 λn P=>.inr oM
 have d2:S.keyed c.key=none:=by simpa using hk
 rw[d2]at A;have b1:ai t l:=k6.new k7 λn P=>.inr oM;have K:=b5.then b1;have o6:=K.size;have b6:=q.then K;have e8:mg d c.aZ c.field c.op c.arg=0:=by
  have:=e5;unfold ki at this;split at this
  ·simp at this
  ·exact this
 have j3:V.decl.at c.aZ=d.at c.aZ:=by rw[j2]
 obtain⟨hV,b0,hq⟩:=hv;have a6:(match V.state c.aZ c.agg with|some B=>B.cells|none=>ef (d.at c.aZ)).length=(d.at c.aZ).length:=by
  unfold bf.state
  cases hs:an V.eT (c.aZ,c.agg)with
  |none=>simp[ef]
  |some s=>rw[<-j3];exact hV.st _ (cy hs)
 obtain⟨c4,t0,t1,o7⟩:=Of j0 e8 a6;obtain⟨C,e9⟩:∃C:Nat,c.aZ=C:=⟨c.aZ.toNat,oM⟩
 have j4:d.at c.aZ=d.types.getD C []:=by
  unfold aT.at;rw[Zx (bH.2 ⟨t0,oM⟩),e9,Qx]
 obtain⟨tb,mL,es,j5,o8,o2,j6,fa,fn,fc,rfl,b2⟩:=(hd.af b6).aZ.el C d.types[C] sM;have b2:Row sL 48 l D fa fn (d.at c.aZ):=by
  rw[j4];have:d.types.getD C []=d.types[C]:=by simp[QQ,show C<d.types.length by omega]
  rw[this];exact b2
 have o9:=(hd.af b6).aZ.len;have c7:=j6 0 dC;have f2:nJ.k=1:=rfl;rw[f2,Nat.mul_one]at c7;have j7:=K.get gd id;have f4:=K.get gc id;refine⟨_,_,_,ae j7 rfl,_,ae f4 rfl,tb,mL,j5,t0,oM,fa,fn,fc,by rw[e9,Qx];exact c7,PA.mk λw8 k8 s8 g8=>PS.mk g8 sM λw9 k9 s9 g9=>?_⟩;have Y:ai l w9:=k8.new k9 λn P=>.inr oM;have d3:=Y.get f4 id;have d4:cJ w v Fv V:=⟨hV,b0,hq⟩
 refine⟨_,ae d3 rfl,_,ae d3 rfl,PC.ok (oK (d4.af (b6.then Y))) ?_⟩;rintro _ d5 ⟨ca,cn,cc,j8,rfl,f5,o3,L⟩;have b3:=Y.then L;have f6:=b6.then b3;have p0:=b3.size;obtain⟨E,hX⟩:∃E,E=(match V.state c.aZ c.agg with|some B=>B.cells|none=>ef (d.at c.aZ)):=⟨_,rfl⟩
 rw[<-hX]at c4 a6 A;refine⟨_,_,_,_,_,rfl,PA.mk λp1 j9 p2 k0=>PS.mk k0 sM λp3 l0 p4 l3=>PS.mk l3 sM λf8 l4 p5 g0=>?_⟩;have a5:ai d5 f8:=(j9.new l0 λn P=>.inr oM).new l4 λn P=>.inr oM;have l5:f8.heap[l.heap.size]? =some (.cells #[.slice fa fn fc] 118 (0,0)):=a5.get (L.get g9 id) id;have c8:=f5.af a5;refine⟨λw'=>ai d5 w'/\∃ca cn cc G,w'.heap[d5.heap.size]? =some (.cells #[WP ((V.state c.aZ c.agg).getD HO).version,.slice ca cn cc] 49 (0,0))/\Row gG 32 w' G ca cn E,?_,?_⟩
 ·refine al.not (al.mk (λl6=>⟨a5,ca,cn,cc,j8,g0,?_⟩) (λl7=>⟨_,_,_,ae l5 rfl,PC.ok (Im (t:=d.at c.aZ) rfl b2.len (by rw[b2.len];omega)) ?_⟩))
  ·obtain⟨B,Z⟩:=Option.isSome_iff_exists.1 l6
   rw[Z]at c8 hX;have b7:E=B.cells:=hX;rw[b7];exact c8.row dC (by show B.cells.length*32<=aR;rw[<-b7,a6];unfold aR;omega)
  ·rintro _ p6 ⟨c0,n6,c6,G6,rfl,l8,d6,l9⟩
   have p7:=d6.size;refine⟨_,_,_,rfl,PS.mk (d6.get g0 id) sM λp8 g4 p9 m0=>⟨(a5.then d6).new g4 λn P=>.inr oM,c0,n6,c6,G6,m0,?_⟩⟩;have hn:V.state c.aZ c.agg=none:=by simpa using l7
   rw[hn]at hX;have b7:E=ef (d.at c.aZ):=hX;rw[b7];exact(l8.keep g4 λn P k=>by have:=l9 n P;omega).row dC (by unfold aR ef;simp;omega)
 rintro _ m1 ⟨m2,q0,q1,q2,G2,h3,h5⟩;refine PA.mk λh8 d7 q3 m3=>?_;have F:=m2.then d7;have m4:=F.size;have c9:=f6.then F;have h9:=d7.get h3 id;have i0:=F.get (L.get d3 id) id;have i1:=F.get (L.get g9 id) id;have i2:=(((K.then Y).then L).then F).get g3 id;have m:∀{z:World} {no:Int},ai h8 z->fQ d S V origin start c=(sN,false,no)->oJ LL 63 (RK w2.heap.size) (kU sN none 0 0) z λt=>jW LL 63 (RK w2.heap.size) t λr=>Ok (wN w (fQ d S V origin start c)) (.returned (.tuple #[r,.bool false,WP no])) t:=λ{z no} h4 Q=>y (((K.then Y).then L).then (F.then h4)) Q;refine⟨λa9 c5 w'=>∃H:Nat,c5=H/\H<=2/\a9=2-H/\ai h8 w'/\(1<=H->c.expect= -1\/c.expect=((V.state c.aZ c.agg).getD ⟨0,[]⟩).version)/\(2<=H->xj (d.at c.aZ) E c.field c.op c.arg=0),⟨_,0,rfl,oM,rfl,aj.refl _,λh=>oM,λh=>oM⟩,?_⟩;rintro a9 _ _ wZ ⟨H,rfl,hj,rfl,i,d8,m5⟩;have d0:=i.get h9 id;have a0:=i.get i0 id;have i3:=i.get i1 id;have d1:=i.get m3 id;refine al.dec (λq4=>⟨m1.heap.size,0,rfl,oM,oM,?_⟩) (λq5=>?_)
 ·have m6:H=0\/H=1:=oM
  rcases m6 with rfl|rfl
  ·refine⟨_,ae d1 rfl,_,_,_,rfl,kR,PC.ok (φ:=λv w'=>v= WP (if c.expect= -1\/c.expect=((V.state c.aZ c.agg).getD ⟨0,[]⟩).version then 0 else 11)/\wZ=w') (vC ⟨_,ae a0 rfl,al.eI (λh1=>Ok.mk ⟨by rw[Zx (.inl h1)],rfl⟩) (λh1=>⟨_,ae a0 rfl,_,ae d0 rfl,al.eI (λh2=>Ok.mk ⟨by rw[Zx (.inr h2)],rfl⟩) (λh2=>Ok.mk ⟨by rw[Zq (by rintro(h|h);exact h1 h;exact h2 h)],rfl⟩)⟩)⟩) ?_⟩
   rintro _ _ ⟨rfl,rfl⟩
   by_cases Z:c.expect= -1\/c.expect=((V.state c.aZ c.agg).getD ⟨0,[]⟩).version
   ·rw[Zx Z]
    exact⟨_,rfl,al.ff rfl ⟨_,oM,1,rfl,oM,rfl,i,λ_=>Z,λh=>oM⟩⟩
   ·rw[Zq Z]
    exact⟨_,rfl,al.tt rfl (m i (A (by rw[Zx Z])))⟩
  ·refine⟨_,ae d1 rfl,_,_,_,rfl,kR,PC.ok (φ:=λv w'=>v= WP (xj (d.at c.aZ) E c.field c.op c.arg)/\ai wZ w') (vD ⟨_,_,_,ae i3 rfl,_,_,_,ae d0 rfl,_,ae a0 rfl,_,ae a0 rfl,_,ae a0 rfl,PC.ok (Il c4 ((b2.af (b3.then F)).af i) ((h5.af d7).af i)) ?_⟩) ?_⟩
   ·rintro _ m7 ⟨rfl,b8⟩
    exact⟨_,rfl,Ok.mk ⟨rfl,b8⟩⟩
   ·rintro _ m7 ⟨rfl,b8⟩
    refine⟨_,rfl,al.eK (λT=>m (i.then b8) (A ?_)) (λh0=>⟨_,oM,2,rfl,oM,rfl,i.then b8,λ_=>d8 oM,λ_=>h0⟩)⟩;have m8:xj (d.at c.aZ) E c.field c.op c.arg=10:=by
     rw[Gq]at T⊢;split at T
     ·simp at T
     ·rename_i hq;rw[Zq hq]
    rw[Zq (λh=>h (d8 oM)),Zx T,m8]
 have i4:=A (r:=((aX c origin S.vec (max S.top start)).2,decide ((aX c origin S.vec (max S.top start)).1=0),(aX c origin S.vec (max S.top start)).1)) (by rw[Zq (λh=>h (d8 oM)),Zq (by rw[m5 oM];simp)]);have I:(if start>S.top then start else S.top)=max S.top start:=by split<;>omega
 have b9:(if start>S.top then start else S.top)<=9223372036854775807:=by split<;>omega
 refine⟨λeb eo no w'=>eo=0/\no=(aX c origin S.vec (max S.top start)).1/\ai wZ w'/\∃a2 a3 a7 G,w'.heap[eb]? =some (.cells (aI (aX c origin S.vec (max S.top start)).2 a2 a3 a7).toArray 63 (0,0))/\Row aP 8 w' G a2 a3 (aX c origin S.vec (max S.top start)).2.aN/\∀n,G n->wZ.heap.size<=n/\n<w'.heap.size,?_,?_⟩
 rotate_left
 ·rintro eb _ no _ q6 ⟨rfl,rfl,d9,a,b,e,p,ge,u,f⟩
  have i5:=d9.get (i.get i2 id) id;have zk:=i.size;have q7:=d9.size;have zw:=q.size;refine ar (bh _ a b e) ge (aD (bh _ a b e) i5 rfl λq8 i6 q9 m9=>ar (bh _ a b e) m9 (Ok.mk ⟨a,b,e,p,?_,?_,λn P=>?_,?_⟩))
  ·rw[i4];rfl
  ·rw[i4];exact u.keep i6 λn P k=>by have:=f n P;omega
  ·have:=f n P;omega
  ·exact(((c9.then i).then d9)).new i6 λn P=>.inr oM
 ·intro M i7
  have e0:ai wZ M:=i7.keep;have r0:M.heap.size=wZ.heap.size:=by rw[i7.heap]
  have i8:=e0.get a0 id;have a4:=hs.af ((c9.then i).then e0);have zk:=i.size;have hn:=hs.1.n;have c1:S.vec.length<=20000000:=by rw[S.bT];omega
  have c2:S.vec.length*8<=aR:=by unfold aR;omega
  have x:∀{wE w6 l:World} {a1:Nat} {a:bc} {b e:Nat} {p:UK},ai M wE->Row aP 8 wE p a b (aX c origin S.vec (max S.top start)).2.aN->(∀n,p n->M.heap.size<=n/\n<wE.heap.size/\n≠a1)->ai wE w6->M.heap.size<=a1->aj (λn=>n=a1) w6 l->l.heap.size=w6.heap.size->l.heap[a1]? =some (.cells (aI (aX c origin S.vec (max S.top start)).2 a b e).toArray 63 (0,0))->
    (λ(eb eo:Nat) (no:Int) (w':World)=>eo=0/\no=(aX c origin S.vec (max S.top start)).1/\ai wZ w'/\∃a2 a3 a7 G,w'.heap[eb]? =some (.cells (aI (aX c origin S.vec (max S.top start)).2 a2 a3 a7).toArray 63 (0,0))/\Row aP 8 w' G a2 a3 (aX c origin S.vec (max S.top start)).2.aN/\∀n,G n->wZ.heap.size<=n/\n<w'.heap.size) a1 0 (aX c origin S.vec (max S.top start)).1 l:=λ{wE w6 l a1 a b e p} hE hr hG h6 hg h7 r3 n0=>by
   have z6:=h6.size;exact⟨rfl,rfl,((e0.then hE).then h6).new h7 λn P=>.inr oM,a,b,e,p,n0,(hr.af h6).keep h7 λn P k=>(hG n P).2.2 k,λn P=>by have:=hG n P;omega⟩
  have zc:¬(M.heap.size<=w1.heap.size):=by
   have h1:=((((k3.then K).then Y).then L).then F).size;omega
  refine⟨λn=>M.heap.size<=n,zc,ar (yv c) i8 ⟨PC.ok (mK a4) ?_,PA.mk λr4 c3 r5 n1=>⟨ai.keep c3,PC.ok (mK (a4.af c3)) ?_⟩⟩⟩
  ·rintro _ n2 ⟨av,nv,cv,a8,rfl,b4,j,n3⟩
   have n4:=j.size;refine⟨_,_,_,rfl,ai.keep j,PC.ok (HL (a4.af j)) ?_,PA.mk λn8 J n9 e1=>⟨ai.keep J,PC.ok (HL ((a4.af j).af J)) ?_⟩⟩
   ·rintro _ _ ⟨rfl,rfl⟩
    refine⟨_,rfl,aj.refl _,?_,?_⟩
    ·rw[I]
     refine PC.ok (jX (b4.row dC c2) (by rw[<-I];exact b9) c1) ?_;rintro _ e2 ⟨a,b,e,p,rfl,u,f,g⟩;have e3:=g.size;exact cA (sK _ a b e) ⟨_,rfl,ai.keep g,PA.mk λr6 i9 r7 o0=>⟨ai.keep i9,aD (bh _ a b e) o0 rfl λe4 o N O=>⟨o.mono λn _ k=>oM,x (j.then g) u (λn P=>⟨by have:=f n P;omega,(f n P).2,by have:=f n P;omega⟩) i9 oM o N O⟩⟩⟩
    ·refine PA.mk λn8 J n9 e1=>⟨ai.keep J,?_⟩
     rw[I];refine PC.ok (jX ((b4.af J).row dC c2) (by rw[<-I];exact b9) c1) ?_;rintro _ e2 ⟨a,b,e,p,rfl,u,f,g⟩;have e3:=g.size;exact cA (sK _ a b e) ⟨_,rfl,ai.keep g,aD (bh _ a b e) (g.get e1 id) rfl λe4 o N O=>⟨o.mono λn _ k=>oM,x ((j.then J).then g) u (λn P=>⟨by have:=f n P;omega,(f n P).2,by have:=f n P;omega⟩) (aj.refl _) oM o N O⟩⟩
   ·rintro _ _ ⟨rfl,rfl⟩
    refine⟨_,rfl,aj.refl _,?_⟩;refine PC.ok (by rw[I];exact jX ((b4.af J).row dC c2) (by rw[<-I];exact b9) c1) ?_;rintro _ e2 ⟨a,b,e,p,rfl,u,f,g⟩;have e3:=g.size;exact cA (sK _ a b e) ⟨_,rfl,ai.keep g,aD (bh _ a b e) (g.get e1 id) rfl λe4 o N O=>⟨o.mono λn _ k=>oM,x ((j.then J).then g) u (λn P=>⟨by have:=f n P;omega,(f n P).2,by have:=f n P;omega⟩) (aj.refl _) oM o N O⟩⟩
  ·rintro _ n2 ⟨av,nv,cv,a8,rfl,b4,j,n3⟩
   have n4:=j.size;refine⟨_,_,_,rfl,ai.keep j,PC.ok (HL ((a4.af c3).af j)) ?_⟩;rintro _ _ ⟨rfl,rfl⟩;refine⟨_,rfl,aj.refl _,?_⟩;refine PC.ok (by rw[I];exact jX (b4.row dC c2) (by rw[<-I];exact b9) c1) ?_;rintro _ e2 ⟨a,b,e,p,rfl,u,f,g⟩;have e3:=g.size;exact cA (sK _ a b e) ⟨_,rfl,ai.keep g,aD (bh _ a b e) ((j.then g).get n1 id) rfl λe4 o N O=>⟨o.mono λn _ k=>oM,x ((c3.then j).then g) u (λn P=>⟨by have:=f n P;omega,(f n P).2,by have:=f n P;omega⟩) (aj.refl _) oM o N O⟩⟩
end
structure ks where
 ta:bc
 tn:Nat
 tc:Nat
 pa:bc
 pn:Nat
 pc:Nat
 dp:Nat
 lp:bc
 sp:Nat
 bp:Nat
 wp:Nat
 tp:Nat
abbrev ks.cells(n:ks)(P:bL)(a:Int):Array Value:= #[WP P.aC,WP P.uO,WP P.bj,WP P.chunk,WP P.buffer,WP P.di,WP P.every,WP P.start,.slice n.ta n.tn n.tc,.slice n.pa n.pn n.pc,WP a,
 RK n.dp,.pointer n.lp,RK n.sp,RK n.bp,RK n.wp,RK n.tp]
def DL(b:World)(G:UK)(c:Nat)(d:bc)(D:ak)(P:Option dw):Prop:=
 ∃a,aV b c a D/\(∀n,a n->G n)/\match P with
  |none=>d=none
  |some e=>e.a_≠[]/\∃f g,d=some ⟨f,0,none⟩/\jy b c f g e/\∀n,g n->G n/\¬a n
def Pp(b:World)(G:UK)(c:Nat)(n:Nat)(d:List ah):Prop:=∃a D,iA b c a D n d/\(∀P,a P->G P)/\∀P,D P->G P
def mE(c:Nat)(d:Array Value)(P:ks)(b:bL)(a:bg)(e:List ah):Nat->World->(UK)->Prop
 |0=>λn G=>G c/\n.heap[c]? =some (.cells d 105 (0,0))
 |1=>λn G=>bu n G b.decl P.ta P.tn P.pa P.pn
 |2=>λn G=>DL n G P.dp P.lp a.D a.log
 |3=>λn G=>cM n P.sp G a.S/\a.S.Cl/\a.S.n=b.aC.toNat
 |4=>λn G=>df n P.bp G b.decl b.every.toNat e
 |5=>λn G=>Pp n G P.wp b.buffer.toNat a.waits
 |6=>λn G=>ez n P.tp G a.gI
 |_=>λ_ _=>True
section
variable {w w' w0:World} {p:Nat} {F G T:UK} {cls:Nat->Nat} {h:ks} {c:bL} {self:Int} {X:bg} {dp:Nat} {lp:bc} {D:ak} {log:Option dw}
def DL.keep(h:DL w G dp lp D log)(a:aj T w w')(b:∀n,G n->¬T n):DL w' G dp lp D log:=by
 obtain⟨f,g,c,d⟩:=h;refine⟨f,g.keep a λn P=>b n (c n P),c,?_⟩
 cases log with
 |none=>exact d
 |some o=>
  obtain⟨i,j,k,l,m,e⟩:=d;exact⟨i,j,k,l,m.keep a λn P=>b n (e n P).1,e⟩
def cd{g:List ah}:mI (mE p m h c X g):=by
 intro k w w' G T n a P
 match k,n with
 |0,n=>exact⟨n.1,a.get n.2 (P p n.1)⟩
 |1,n=>exact bu.keep n a P
 |2,n=>exact DL.keep n a P
 |3,n=>exact⟨cM.keep n.1 a P,n.2⟩
 |4,n=>exact df.keep n a P
 |5,n=>obtain⟨i,D,j,e,f⟩:=n;exact⟨i,D,j.keep a (λb d=>P b (e b d)) λb d=>P b (f b d),e,f⟩
 |6,n=>exact ez.keep n a P
 |k+7,n=>trivial
structure kf (c:bL) (me:Int):Prop where
 right:fJ c me=true
 decl:dt c.decl=0
 seg:aM c.bj
 every:aM c.every
 start:aM c.start
structure Env (w0 w:World) (F:UK):Prop where
 qg:fw w0
 laid:Laid w0
 gr:ai w0 w
 aF:∀b,F b->w0.heap.size<=b
def Env.iJ(h:Env w0 w F)(a:cz F w f w'):Env w0 w' f:=⟨h.qg,h.laid,h.gr.new a.keep λn P=>.inr (h.aF n P),λn P=>(a.new n P).elim (h.aF n) λb=>by have:=h.gr.size;omega⟩
def Env.af(h:Env w0 w F)(n:ai w w'):Env w0 w' F:=⟨h.qg,h.laid,h.gr.then n,h.aF⟩
abbrev cQ(w:World)(F:UK)(cls:Nat->Nat)(p:Nat)(h:ks)(c:bL)(self:Int)(X:bg):Prop:=bb w F cls (mE p (h.cells c self) h c X X.S.l)
def bX(w:World)(p:Nat)(F:UK)(c:bL)(self:Int)(X:bg):Prop:=kf c self/\∃h cls,cQ w F cls p h c self X
def cQ.af(n:cQ w F cls p h c self X)(P:ai w w'):cQ w' F cls p h c self X:=bb.af n cd P
def cQ.bB(n:cQ w F cls p h c self X):w.heap[p]? =some (.cells (h.cells c self) 105 (0,0)):=(n.at' 0).2
def cQ.JT(n:cQ w F cls p h c self X):F p/\cls p=0:=(n.at' 0).1
def bX.keep(P:bX w p F c self X)(a:aj T w w')(b:∀n,F n->¬T n):bX w' p F c self X:=by
 obtain⟨d,h,cls,e⟩:=P;exact⟨d,h,cls,bb.keep e cd a b⟩
def bX.af(n:bX w p F c self X)(P:ai w w'):bX w' p F c self X:=n.keep P λ_ _ h=>h
def bX.aF(P:bX w p F c self X):∀n,F n->n<w.heap.size:=by obtain⟨b,h,cls,a⟩:=P;exact a.aF
def cQ.store{a:ks}{b:List ah}(n:bb w F cls (mE p m a c X b))(e:aj (·=p) w w')(f:w'.heap[p]? =some (.cells Y 105 (0,0))):bb w' F cls (mE p Y a c X b):=by
 refine bb.same n cd (k:=0) (e.mono λg _ P=>by have P:g=p:=P;exact P▸(n.at' 0).1) ⟨(n.at' 0).1,f⟩ λd G h i=>?_;rcases d with _|_|_|_|_|_|_|d<;>first|exact i|exact Zz rfl h
def DL.PR(g:DL w G dp lp D (some b3))(c:Env w0 w G)(l:∀n,G n->n<w.heap.size):∃b,lp=UV b/\b3.a_≠[]/\cI w0 w dp b b3 D (λn=>n<w.heap.size/\¬G n):=by
 obtain⟨h,i,e,j,b,k,rfl,f,d⟩:=g;refine⟨b,rfl,j,k,⟨h,i,c.gr,λn P=>⟨c.aF n (e n P),λa=>?_⟩,λn P=>?_⟩,f,λn P=>⟨c.aF n (d n P).1,λa=>a.2 (d n P).1⟩⟩
 ·rcases a with a|a
  ·exact a.2 (e n P)
  ·exact(d n a).2 P
 ·rcases P with P|P
  ·exact P.1
  ·exact f.aF n P
def DL.uO(c:DL w G dp lp D log)(a:Env w0 w G):aY w0 w dp D (λn=>n<w.heap.size/\¬G n):=by
 obtain⟨d,e,b,-⟩:=c;exact⟨d,e,a.gr,λn P=>⟨a.aF n (b n P),λf=>f.2 (b n P)⟩,λn P=>P.1⟩
def DL.Hy{Y:UK}(l:cI w0 w' dp a b3 D (λn=>(n<w.heap.size/\¬G n)\/Y n))(m:aj (dW λn=>n<w.heap.size/\¬G n) w w')(o:b3.a_≠[]):∃c,DL w' c dp (UV a) D (some b3)/\cz G w c w'/\(∀n,c n->n<w'.heap.size)/\∀n,c n->¬Y n:=by
 obtain⟨f,⟨g,h,r,d,s⟩,i,j⟩:=l;have e:∀n,¬(n<w.heap.size/\¬G n)->G n\/w.heap.size<=n:=λn P=>by
  rcases Nat.lt_or_ge n w.heap.size with b|b
  ·exact .inl (Classical.byContradiction λp=>P ⟨b,p⟩)
  ·exact .inr b
 refine⟨λn=>g n\/f n,⟨g,h,λn P=>.inl P,o,a,f,rfl,i,λn P=>⟨.inr P,λq=>(d n q).2 (.inr P)⟩⟩,⟨m.mono λn t P=>(e n P).resolve_right oM,λn P=>?_⟩,λn P=>?_,λn P k=>?_⟩
 ·rcases P with P|P
  ·exact e n λb=>(d n P).2 (.inl (.inl b))
  ·exact e n λb=>(j n P).2 (.inl b)
 ·exact P.elim (h.aF n) (i.aF n)
 ·rcases P with P|P
  ·exact(d n P).2 (.inl (.inr k))
  ·exact(j n P).2 (.inr k)
def DL.NY{Y:UK}(g:aY w0 w' dp D (λn=>(n<w.heap.size/\¬G n)\/Y n))(h:aj (dW λn=>n<w.heap.size/\¬G n) w w'):∃b,DL w' b dp none D none/\cz G w b w'/\(∀n,b n->n<w'.heap.size)/\∀n,b n->¬Y n:=by
 obtain⟨c,d,k,e,l⟩:=g;have f:∀n,¬(n<w.heap.size/\¬G n)->G n\/w.heap.size<=n:=λn P=>by
  rcases Nat.lt_or_ge n w.heap.size with a|a
  ·exact .inl (Classical.byContradiction λi=>P ⟨a,i⟩)
  ·exact .inr a
 exact⟨c,⟨c,d,λn P=>P,rfl⟩,⟨h.mono λn m P=>(f n P).resolve_right oM,λn P=>f n λa=>(e n P).2 (.inl a)⟩,λn P=>d.aF n P,λn P j=>(e n P).2 (.inr j)⟩
end
def Ka{D:ak}(P:b3.a_≠[]):(aH b3 D).2.1.a_≠[]:=by
 have b:∀n:ak,(lZ b3 n).2.1.a_≠[]:=by
  intro n;unfold lZ;dsimp only;split
  ·exact P
  ·split
   ·exact P
   ·simp
 have a:∀n:ak,(bz b3 n).2.1.a_≠[]:=by
  intro n;unfold bz;dsimp only;split
  ·exact P
  ·exact b _
 unfold aH;dsimp only;split
 ·exact a D
 ·split
  ·exact P
  ·exact a _
def HB{D:ak}{l:List ah}(n:b3.a_≠[]):(aE b3 D l).2.1.a_≠[]:=by
 unfold aE;dsimp only;have P:(if b3.size<=b3.bytes then aH b3 D else(0,b3,D)).2.1.a_≠[]:=by
  split
  ·exact Ka n
  ·exact n
 generalize(if b3.size<=b3.bytes then aH b3 D else(0,b3,D))=a at P⊢;split
 ·exact n
 split
 ·exact n
 split
 ·exact P
 split
 ·exact P
 ·exact P
def SU(c:Row lb 96 b f d a F):∀n∈F,n.Ok:=λn e=>by
 obtain⟨P,g,rfl⟩:=List.getElem_of_mem e;obtain⟨i,j,k,-,-,-,-,l,m,o,-,-,h⟩:=c.el P F[P] (Qq g);exact h
def au.Kb:∀{l:List ah} {S:au} {n:ah},n∈S.l->n∈(S.eD l).l
 |[],S,n,P=>P
 |e::l,S,n,P=>au.Kb (l:=l) (S:=(S.add e).2) (by
  rcases S.gq e with⟨-,a⟩|⟨b,-⟩
  ·rw[a];exact P
  ·rw[b];exact(cN e S.l).mem_iff.2 (QJ _ P))
def wv{n:bL}(a:H.Cl)(b:H.n=n.aC.toNat)(P:List ah):e_ n H P=H.eD P:=by
 unfold e_;rw[au.Bf,<-b,a.VX]
section
variable {w w' w0:World} {p:Nat} {F E T:UK} {cls:Nat->Nat} {h:ks} {c:bL} {self:Int} {X:bg} {evs:List ah} {ea:bc} {en ec:Nat}
def kf.aC(n:kf c self):c.aC=(c.aC.toNat:Int)/\c.aC.toNat<=64/\1<=c.aC.toNat:=by
 have:=n.right;unfold fJ within at this;simp only[QK,Zk]at this;omega
def Kc(s:cQ w F cls p h c self X)(b0:kf c self)(hr:Row lb 96 w E ea en evs)(t:∀n,E n->n<w.heap.size)(hl:X.S.l.length+evs.length<=20000000):
  be 136 #[RK p,.slice ea en ec] w (Ok λa0 w'=>∃L b,a0= RK L/\cM w' L b (e_ c X.S evs)/\(∀n,b n->w.heap.size<=n)/\ai w w'):=by
 obtain⟨b1,b2,c6⟩:=b0.aC;have fR:=(s.at' 3).1;refine pg ⟨p,0,rfl,_,ae s.bB rfl,?_⟩;rw[b1];refine PC.ok (Gm b2) ?_;rintro _ w7 ⟨u,j,rfl,M,v,k⟩;have f:=cQ.af s k;refine⟨_,rfl,p,0,rfl,_,ae f.bB rfl,PC.ok (vk (fR.af k) oM) ?_⟩;rintro _ c7 ⟨a2,x,c1,G,rfl,g,y,l⟩;have N:=M.aF;have c8:=g.aF;have z7:=k.size;have c9:=y.size;have O:=k.then y;refine⟨_,_,_,rfl,AB g KF (hr.af O) (λn P=>⟨by have:=t n P;omega,λz=>by have:=t n P;have:=l n (g.self n z);omega⟩) ce (by unfold maxLen;omega) λa' c' m Q A B b3 _=>⟨_,_,_,rfl,?_⟩⟩;have b4:=A.len dC;have d0:=B.size;rw[QX]at b4;have a3:Row lb 96 m Q a' (x+en) (X.S.l++evs):=A.row dC (by rw[QX];unfold aR;omega);have R:=A.aF;have S:∀n,Q n->¬j n:=λn P o=>by
  have d:=v n o;have h6:=N n o;rcases b3 n P with f|f|f
  ·have:=l n f;omega
  ·have:=t n f;omega
  ·omega
 have a4:ai w m:=O.new B λn P=>.inr (by have:=l n (g.self n P);omega);have a5:=(M.af y).keep B λn P z=>by have:=N n P;have:=l n (g.self n z);omega
 refine⟨λT C w'=>∃(a:Nat) (b:UK),C=a/\a<=x+en/\T=x+en-a/\cM w' u b ((⟨c.aC.toNat,[]⟩:au).eD ((X.S.l++evs).take a))/\(∀n,b n->j n\/m.heap.size<=n)/\aj j m w',⟨_,0,j,rfl,Qj _,rfl,a5,λn P=>.inl P,aj.refl _⟩,?_⟩;rintro T _ _ U ⟨a,b,rfl,hj,rfl,H,q,r⟩;have d1:=r.size;refine al.dec (λd2=>?_) (λd3=>?_)
 ·obtain⟨e,V⟩:∃e,(X.S.l++evs)[a]? =some e:=⟨_,Qq (by rw[QX];omega)⟩
  obtain⟨n,a1,es,ha,d4,d5,b5,I,J,K,rfl,b6,a7⟩:=(a3.keep r S).el a e V;refine⟨n,a1,ha,oM,oM,cx (es:=aI e I J K) (k:=10) (bh _ _ _ _) rfl (λC ht=>by rw[Qx];exact b5 C ht) (PA.mk λd6 b7 d7 b8=>aD (bh e I J K) b8 rfl λb9 c2 d8 c3=>ar (bh e I J K) c3 ?_)⟩;have i:ai U b9:=b7.new c2 λn P=>.inr (by have P:n=U.heap.size:=P;omega);have W:=au.nQ ((X.S.l++evs).take a) ⟨c.aC.toNat,[]⟩;rw[Qy,QX]at W;simp only[ZQ]at W;refine PC.ok (vj (H.af i) (b6.af i) (λn P=>⟨by have:=R n P;have:=i.size;omega,λo=>?_⟩) a7 oM) ?_
  ·rcases q n o with d|d
   ·exact S n P d
   ·have:=R n P;omega
  rintro _ c4 ⟨rfl,Y,c5,Z⟩;refine⟨_,rfl,_,oM,a+1,Y,aq oM,oM,rfl,?_,λn P=>?_,(r.af i).new Z.keep λn P=>q n P⟩
  ·rw[Qw,V]
   show cM c4 u Y (au.eD _ ((X.S.l++evs).take a++[e]));rw[au.sr];exact c5
  ·rcases Z.new n P with d|d
   ·exact q n d
   ·have:=i.size;exact .inr oM
 ·rw[Qz (by rw[QX];omega)]at H
  exact Ok.mk ⟨u,b,rfl,H,λn P=>(q n P).elim (v n) λd=>oM,a4.new r λn P=>.inr (v n P)⟩
end
section
variable {w w' w0:World} {p:Nat} {F E T:UK} {cls:Nat->Nat} {h:ks} {c:bL} {self:Int} {X:bg} {evs lB:List ah} {ea:bc} {en ec:Nat}
def Env.sub(P:Env w0 w F)(a:∀n,f n->F n):Env w0 w f:=⟨P.qg,P.laid,P.gr,λn b=>P.aF n (a n b)⟩
def SV(n:H.OK)(a:l∈H.l)(b:N∈H.l)(c:bd l=bd N):l=N:=by
 have P:=n.get a;have d:=n.get b;rw[c,d]at P;exact(XJ P).symm
def CL(v:bb w F cls (mE p (h.cells c self) h c X lB))(j:Env w0 w F)(R:∀(x:Nat) (l m:ah),lB[x]? =some l->X.S.l[x]? =some m->bd l=bd m->l=m)(y:X.S.l.length<=20000000){κ:ac}(o:∀w' f P,cQ w' f P p h c self X->cz F w f w'->κ (WP 0) w'):
  ∀qf,cf w qf->∃q:UK,(∃r z,(UV p:bc)=some ⟨r,z,none⟩/\(¬q r/\(∃(A:bc),qf.cell? ⟨r,z+14,none⟩=some (.pointer A)/\(∃B C,(UV p:bc)=some ⟨B,C,none⟩/\(∃(E:bc),qf.cell? ⟨B,C+13,none⟩=some (.pointer E)/\
   PC LL 59 #[.pointer E] qf (λS b=>∃(H:bc) (I:Nat) (J:Nat),S= .slice H I J/\(aj q qf b/\PC LL 75 #[.pointer A,.slice H I J] b (λT g=>∃(U:Int),T= WP U/\(aj q b g/\κ (WP 0) g)) a5)) h6))))):=by
 intro qf V;have s:ai w qf:=V.keep;have i:=bb.af v cd s;have K:=(i.at' 0).2;refine⟨λn=>F n/\cls n=4,p,0,rfl,λW=>?_,_,ae K rfl,p,0,rfl,_,ae K rfl,PC.ok (vk (show cM qf h.sp (λn=>F n/\cls n=3) X.S from(i.at' 3).1) y) ?_⟩
 ·have:=W.2
  have Y:=(show(F p/\cls p=0)/\_ from v.at' 0).1.2;rw[Y]at this;cases this
 rintro _ b ⟨a1,a2,cc,G,rfl,t,e,Z⟩;have b5:=e.size;have a6:=i.aF;have L:=bb.af i cd e;have a8:=t.lE;have a0:df b h.bp (λn=>F n/\cls n=4) c.decl c.every.toNat lB:=L.at' 4;refine⟨_,_,_,rfl,ai.keep e,PC.ok (HV a0 j.qg ((j.gr.then s).then e) (λn d=>j.aF n d.1) (t.row dC ce) a8 (λn d=>⟨t.aF n d,λhf=>by have:=a6 n hf.1;have:=Z n d;omega⟩) y R) ?_⟩;rintro _ g ⟨k,rfl,G4,M,N⟩;obtain⟨f,P,u,a,-,-⟩:=L.iJ cd (k:=4) (G':=G4) (C2:=mE p (h.cells c self) h c X X.S.l) N M.aF M λO G hj hc=>by
  rcases O with _|_|_|_|_|_|_|O<;>first|exact hc|exact Zz rfl hj
 have Q:ai w b:=s.then e;exact⟨_,rfl,N.keep,o g f P u ⟨(ai.keep Q).then a.keep,λn d=>(a.new n d).imp id λh1=>by have:=Q.size;omega⟩⟩
def JU(x:cQ w F cls p h c self X)(c1:kf c self)(y:Env w0 w F){V:dw}(b3:X.log=some V)(Y:Row lb 96 w E ea en evs)(Z:∀P,E P->P<w.heap.size/\¬(F P/\cls P=2))(hl:X.S.l.length+evs.length<=20000000):
  be 81 #[RK p,.slice ea en ec] w (Ok λz w'=>z= WP (de c X evs).1/\∃A r d,cQ w' r d p A c self (de c X evs).2/\cz F w r w'/\A.wp=h.wp):=by
 obtain⟨b,D,c2,n,i⟩:=X;simp only at b3 hl;subst b3;obtain⟨hS,B,hn⟩:=(show cM w h.sp (λP=>F P/\cls P=3) b/\b.Cl/\b.n=c.aC.toNat from x.at' 3)
 have c3:=x.aF;obtain⟨e1,C,H,a0⟩:=DL.PR (show DL w (λP=>F P/\cls P=2) h.dp h.lp D (some V)from x.at' 2) (y.sub λP a=>a.1) λP a=>c3 P a.1;have c4:=SU Y;have a2:∀P,E P->P<w.heap.size:=λP a=>(Z P a).1;refine o_ ⟨p,0,rfl,_,ae x.bB rfl,?_⟩;rw[C];refine PC.ok (Mx y.laid a0 H Y a2 oM) ?_;rintro _ w7 ⟨rfl,a1,k7⟩;have I:=HB (D:=D) (l:=evs) H;have s:∀{a3},(if(aE V D evs).1≠0 then((aE V D evs).1,({S:=b,D:=(aE V D evs).2.2,log:=some (aE V D evs).2.1,waits:=n,gI:=i}:bg))else
   if((aE V D evs).2.2.sync (aE V D evs).2.1.last).1≠0 then(((aE V D evs).2.2.sync (aE V D evs).2.1.last).1,{S:=b,D:=((aE V D evs).2.2.sync (aE V D evs).2.1.last).2,log:=some (aE V D evs).2.1,waits:=n,gI:=i})else
   (0,{S:=e_ c b evs,D:=((aE V D evs).2.2.sync (aE V D evs).2.1.last).2,log:=some (aE V D evs).2.1,waits:=n,gI:=i}))=a3->de c ⟨b,D,some V,n,i⟩ evs=a3:=λ{a3} hq=>hq
 generalize e2:aE V D evs=ap at a1 I s;obtain⟨e3,t,D7⟩:=ap;simp only at a1 I s;obtain⟨G7,J,a4,a5,-⟩:=DL.Hy (Y:=λ_=>False) (a1.mono λP a=>a.elim id False.elim) k7 I;obtain⟨F7,k,K,e,-,-,c5⟩:=x.iJ cd (k:=2) (G':=G7) (C2:=mE p (h.cells c self) h c ⟨b,D7,some t,n,i⟩ b.l) a4 a5 (by rw[<-C]at J;exact J) λl G L M=>by
  rcases l with _|_|_|_|_|_|_|l<;>first|exact M|exact Zz rfl L
 refine⟨_,rfl,al.eK (λa6=>Ok.mk ?_) (λh0=>?_)⟩
 ·rw[s (Zx a6)]
  exact⟨rfl,h,F7,k,K,e,rfl⟩
 simp only at h0;have c6:=y.iJ e;obtain⟨q2,m,-,u⟩:=DL.PR (show DL w7 (λP=>F7 P/\k P=2) h.dp h.lp D7 (some t)from K.at' 2) (c6.sub λP a=>a.1) λP a=>K.aF P a.1;refine⟨p,0,rfl,_,ae (K.at' 0).2 rfl,?_⟩;rw[m];refine PC.ok (JE y.laid u I) ?_;rintro _ b4 ⟨rfl,a7,c7⟩;generalize e4:D7.sync t.last=sy at a7 s;obtain⟨s1,S⟩:=sy;simp only at a7 s;obtain⟨a8,o,g,N,-⟩:=DL.Hy (Y:=λ_=>False) (a7.mono λP a=>a.elim id False.elim) c7 I;obtain⟨O,v,f,j,-,a9,T⟩:=K.iJ cd (k:=2) (G':=a8) (C2:=mE p (h.cells c self) h c ⟨b,S,some t,n,i⟩ b.l) g N (by rw[<-m]at o;exact o) λl G L M=>by
  rcases l with _|_|_|_|_|_|_|l<;>first|exact M|exact Zz rfl L
 have b0:=e.trans j;refine⟨_,rfl,al.eK (λa6=>Ok.mk ?_) (λh1=>?_)⟩
 ·rw[s ((Zq (by simpa using h0)).trans (Zx a6))]
  exact⟨rfl,h,O,v,f,b0,rfl⟩
 simp only at h1;have c8:=s ((Zq (by simpa using h0)).trans (Zq (by simpa using h1)));rw[c8];have c9:Row lb 96 b4 E ea en evs:=by
  refine(Y.keep a4.keep λP a=>(Z P a).2).keep g.keep λP a hf=>?_;rcases a4.new P (c5▸hf)with h5|h5
  ·exact(Z P a).2 h5
  ·have:=a2 P a;omega
 refine PC.ok (Kc f c1 c9 (λP a=>by have:=a2 P a;have:=b0.keep.size;omega) hl) ?_;rintro _ d0 ⟨U,F2,rfl,b5,d1,d2⟩;have d3:(e_ c b evs).n=c.aC.toNat:=au.Rl _ _;have b1:=wv B hn evs;have b6:(e_ c b evs).Cl:=by rw[b1];exact au.Cl.eD B c4
 obtain⟨F3,Q,b7,q,d4,-⟩:=f.fj cd (k:=3) (w':=d0) (G':=F2) (C2:=mE p (h.cells c self) {h with sp:=U} c ⟨e_ c b evs,S,some t,n,i⟩ b.l) (ai.keep d2) (λP a=>.inr (d1 P a)) b5.aF ⟨b5,b6,d3⟩ λl G L M=>by
  rcases l with _|_|_|_|_|_|_|l<;>first|exact M|exact Zz rfl L
 refine⟨_,rfl,p,0,rfl,PS.mk (b7.at' 0).2 sM λb8 b9 e5 d5=>?_⟩;have d6:bb b8 F3 Q (mE p (({h with sp:=U}:ks).cells c self) {h with sp:=U} c ⟨e_ c b evs,S,some t,n,i⟩ b.l):=cQ.store b7 b9 d5;have d7:cz O b4 F3 b8:=⟨q.keep.then (b9.mono λP _ R=>by have R:P=p:=R;rw[R];exact(f.at' 0).1.1),q.new⟩
 have c0:=b0.trans d7;have d8:∀W∈b.l,W∈(e_ c b evs).l:=λW hx=>by rw[b1];exact au.Kb hx
 have d9:(e_ c b evs).l.length<=20000000:=by rw[b1];exact Xx (au.nQ _ _) hl
 exact CL d6 (y.iJ c0) (λe6 W e7 hx hy R=>SV b6.ok (d8 W (QZ hx)) (QZ hy) R) d9 (κ:=λz w'=>Ok (λz w'=>z= WP 0/\∃A r d,cQ w' r d p A c self ⟨e_ c b evs,S,some t,n,i⟩/\cz F w r w'/\A.wp=h.wp) (.returned z) w')
  λw' r d b2 e0=>Ok.mk ⟨rfl,{h with sp:=U},r,d,b2,c0.trans e0,rfl⟩
end
def CI{D:ak}{size:Int}(n:(aS D size).no=0):(aS D size).V.a_≠[]:=by
 revert n
 unfold aS;generalize cO (told D) [] (dP D size) D=b;unfold gv;split
 ·rename_i a;intro n;exact Zz n a
 split
 ·intro n;exact tK n
 rename_i P;split
 ·intro _;exact P
 ·intro _;exact P
abbrev yl(n:ks)(P:bL)(a:Int)(b c d:bc):Array Value:= #[WP P.aC,WP P.uO,WP P.bj,WP P.chunk,WP P.buffer,WP P.di,WP P.every,WP P.start,.slice n.ta n.tn n.tc,.slice n.pa n.pn n.pc,WP a,
 RK n.dp,.pointer b,.pointer c,.pointer d,RK n.wp,RK n.tp]
def recC(c:Nat)(d:Array Value)(P:ks)(b:bL)(a:bg)(e:Bool):Nat->World->(UK)->Prop
 |0=>λn G=>G c/\n.heap[c]? =some (.cells d 105 (0,0))
 |1=>λn G=>bu n G b.decl P.ta P.tn P.pa P.pn
 |2=>λn G=>DL n G P.dp P.lp a.D a.log
 |3=>λn G=>e=true->cM n P.sp G a.S/\a.S.Cl/\a.S.n=b.aC.toNat
 |5=>λn G=>Pp n G P.wp b.buffer.toNat a.waits
 |6=>λn G=>ez n P.tp G a.gI
 |_=>λ_ _=>True
section
variable {w w' w0:World} {p:Nat} {F E T:UK} {cls:Nat->Nat} {h:ks} {c:bL} {self:Int} {X:bg} {evs lB:List ah} {ea:bc} {en ec:Nat}
def iG:mI (recC p m h c X K):=by
 intro k w w' G T n a P
 match k,n with
 |0,n=>exact⟨n.1,a.get n.2 (P p n.1)⟩
 |1,n=>exact bu.keep n a P
 |2,n=>exact DL.keep n a P
 |3,n=>exact λe=>⟨cM.keep (n e).1 a P,(n e).2⟩
 |4,n=>trivial
 |5,n=>obtain⟨i,D,j,f,g⟩:=n;exact⟨i,D,j.keep a (λb d=>P b (f b d)) λb d=>P b (g b d),f,g⟩
 |6,n=>exact ez.keep n a P
 |k+7,n=>trivial
def yZ{z1 z2 z3:bc}(T:bb w F cls (recC p (yl h c self z1 z2 z3) h c X false))(L:kf c self)(A:Env w0 w F):
  be 46 #[RK p] w (Ok λB w'=>B= WP (fF c X).1/\(fF c X).2.S.l.length<=16777216/\∃U q d,cQ w' q d p U c self (fF c X).2/\cz F w q w'):=by
 obtain⟨g0,d2,j5⟩:=L.aC;have g1:=T.aF;have V:F p/\cls p=0:=(T.at' 0).1;have j0:1<=c.every:=by
  have:=L.right;unfold fJ at this;simp only[QK,Zk]at this;omega
 refine mz λw3 d3=>?_;have W:ai w w3:=d3.keep;have M:=bb.af T iG W;have N:=(M.at' 0).2;refine⟨λ_=>False,p,0,rfl,_,ae N rfl,p,0,rfl,id,_,_,_,_,_,_,ae N rfl,ae N rfl,p,0,rfl,id,_,ae N rfl,?_⟩;rw[g0];refine PC.ok (Gm d2) ?_;rintro _ d4 ⟨e,F2,rfl,Y,d5,C⟩;have a9:=W.then C;have d6:=bb.af M iG C;refine⟨_,rfl,C,PC.ok (QN L.decl L.every ((A.qg.af A.gr).af a9) (show bu d4 (λn=>F n/\cls n=1) c.decl h.ta h.tn h.pa h.pn from d6.at' 1) λn P=>d6.aF n P.1) ?_⟩;rintro _ g2 ⟨g,F4,rfl,Z,d7,b7⟩;have y3:=W.size;have j6:=C.size;have j7:=b7.size;rw[show(max 1 c.every).toNat=c.every.toNat by congr 1;omega]at Z;have j1:=Y.aF;obtain⟨Fa,d1,E,b0,g4,-⟩:=M.HU iG (k:=3) (w':=d4) (G':=F2) (C2:=recC p (yl h c self z1 z2 z3) {h with sp:=e} c {X with S:=⟨c.aC.toNat,[]⟩} true) (ai.keep C) (λn P l=>by have:=d5 n P;have:=g1 n l;omega) Y.aF (λ_=>⟨Y,au.Cl.new d2,rfl⟩) λa G i j=>by
  rcases a with _|_|_|_|_|_|_|a<;>first|exact j|exact Zz rfl i
 obtain⟨u,r,b8,b1,g5,-⟩:=E.HU iG (k:=4) (w':=g2) (G':=F4) (C2:=mE p (yl h c self z1 z2 z3) {h with sp:=e,bp:=g} c {X with S:=⟨c.aC.toNat,[]⟩} []) (ai.keep b7) (λn P l=>by have:=d7 n P;have:=E.aF n l;omega) Z.aF Z λa G i j=>by
  rcases a with _|_|_|_|_|_|_|a<;>first|exact j|exact j rfl|exact Zz rfl i
 have d8:∀n,u n->F n\/w.heap.size<=n:=λn P=>by
  rcases g5 n P with k|k
  ·rcases g4 n k.1 with h6|h6
   ·exact .inl h6.1
   ·exact .inr (by have:=d5 n h6;omega)
  ·exact .inr (by have:=d7 n k;omega)
 refine⟨_,rfl,p,0,rfl,PS.mk (b8.at' 0).2 sM λj8 d9 j9 g6=>⟨p,0,rfl,PS.mk g6 sM λb9 e0 k0 g7=>λc1 g8=>?_⟩⟩;have j2:u p/\r p=0:=(b8.at' 0).1;have e1:ai b9 c1:=g8.keep;have g9:bb b9 u r (mE p (yl h c self z1 (UV e) (UV g)) {h with sp:=e,bp:=g} c {X with S:=⟨c.aC.toNat,[]⟩} []):=cQ.store b8 (d9.then e0) g7;have b2:cz F w u b9:=⟨((ai.keep a9).af b7).then ((d9.then e0).mono λn _ f=>by have f:n=p:=f;rw[f];exact V.1),d8⟩
 have H:=bb.af g9 cd e1;have O:cz F w u c1:=⟨b2.keep.af e1,b2.new⟩
 have e2:=A.iJ O;have e3:=(H.at' 0).2;have h4:=DL.uO (show DL c1 (λn=>u n/\r n=2) h.dp h.lp X.D X.log from H.at' 2) (e2.sub λn P=>P.1);refine⟨p,0,rfl,_,ae e3 rfl,p,0,rfl,_,ae e3 rfl,PC.ok (I_ A.laid h4) ?_⟩;have a0:∀{b},(if(aS X.D c.bj).no≠0 then((aS X.D c.bj).no,{X with D:=(aS X.D c.bj).D,log:=none,S:=⟨c.aC.toNat,[]⟩})
   else(0,{X with D:=(aS X.D c.bj).D,log:=some (aS X.D c.bj).V,S:=(⟨c.aC.toNat,[]⟩:au).eD (aS X.D c.bj).out}))=b->fF c X=b:=λ{b} hq=>hq
 have b3:=CI (D:=X.D) (size:=c.bj);generalize aS X.D c.bj=b at a0 b3;rintro _ h7 (⟨I,rfl,e5,c3⟩|⟨I,s,e9,a1,cc,G,rfl,c4,h8,c3,hG,hq,j3⟩)
 ·obtain⟨G2,c5,a2,c6,-⟩:=DL.NY (Y:=λ_=>False) (e5.mono λn P=>P.elim id False.elim) c3
  obtain⟨t,Q,v,a3,-,-⟩:=H.iJ cd (k:=2) (G':=G2) (C2:=mE p (yl h c self z1 (UV e) (UV g)) {h with sp:=e,bp:=g,lp:=none} c {X with S:=⟨c.aC.toNat,[]⟩,D:=b.D,log:=none} []) a2 c6 (by
    obtain⟨Fd,h1,h2,M⟩:=c5;exact⟨Fd,h1,h2,rfl⟩) λa G i j=>by
   rcases a with _|_|_|_|_|_|_|a<;>first|exact j|exact Zz rfl i
  refine⟨_,_,_,_,_,rfl,p,0,rfl,PS.mk (v.at' 0).2 sM λx y e4 c7=>al.eK (λ_=>Ok.mk ?_) (λh0=>Zz h0 I)⟩;rw[a0 (Zx I)];refine⟨rfl,Qj _,{h with sp:=e,bp:=g,lp:=none},t,Q,cQ.store v y c7,?_⟩;have J:=O.trans a3;exact⟨J.keep.then (y.mono λn _ f=>by have f:n=p:=f;rw[f];exact V.1),J.new⟩
 ·obtain⟨G2,c5,a2,c6,hY⟩:=DL.Hy h8 c3 (b3 I)
  obtain⟨t,Q,v,a3,h9,-⟩:=H.iJ cd (k:=2) (G':=G2) (C2:=mE p (yl h c self z1 (UV e) (UV g)) {h with sp:=e,bp:=g,lp:=UV s} c {X with S:=⟨c.aC.toNat,[]⟩,D:=b.D,log:=some b.V} []) a2 c6 c5 λa G i j=>by
   rcases a with _|_|_|_|_|_|_|a<;>first|exact j|exact Zz rfl i
  refine⟨_,_,_,_,_,rfl,p,0,rfl,PS.mk (v.at' 0).2 sM λx y e4 c7=>al.eK (λh0=>Zz rfl h0) (λ_=>?_)⟩;have f0:bb x t Q (mE p (({h with sp:=e,bp:=g,lp:=UV s}:ks).cells c self) {h with sp:=e,bp:=g,lp:=UV s} c {X with S:=⟨c.aC.toNat,[]⟩,D:=b.D,log:=some b.V} []):=cQ.store v y c7;have J:=O.trans a3;have b4:cz F w t x:=⟨J.keep.then (y.mono λn _ f=>by have f:n=p:=f;rw[f];exact V.1),J.new⟩
  have j4:=O.keep.size;have c8:∀n,G n->¬t n:=λn P l=>by
   rcases h9 n l with k|k
   ·have:=H.aF n k.1;have:=hG n P;omega
   ·exact hY n k P
  have i0:∀n,G n->n≠p:=λn P f=>c8 n P (f▸(v.at' 0).1.1);have b5:=c4.aF;have k1:=c4.len dC;have b6:Row lb 96 x G e9 a1 b.out:=wh.row (((c4.keep y λn P f=>i0 n P f)).row dC ce);have k2:x.heap.size=h7.heap.size:=e4;rw[a0 (Zq (by simpa using I))];have f8:=SU b6;refine⟨λc0 a4 w'=>∃(a:Nat) (R:UK) (e6:Nat->Nat),a4=a/\a<=a1/\c0=a1-a/\bb w' R e6 (mE p (({h with sp:=e,bp:=g,lp:=UV s}:ks).cells c self) {h with sp:=e,bp:=g,lp:=UV s} c {X with S:=(⟨c.aC.toNat,[]⟩:au).eD (b.out.take a),D:=b.D,log:=some b.V} [])/\cz t x R w',
   ⟨_,0,t,Q,rfl,Qj _,rfl,f0,cz.refl _ _⟩,?_⟩
  rintro c0 _ _ e7 ⟨a,R,e6,rfl,i,rfl,c9,z⟩;have i1:∀n,G n->¬R n:=λn P l=>by
   rcases z.new n l with k|k
   ·exact c8 n P k
   ·have:=b5 n P;omega
  have d0:=au.nQ (b.out.take a) ⟨c.aC.toNat,[]⟩;rw[Qy]at d0;simp only[ZQ]at d0;refine al.dec (λk4=>?_) (λk5=>?_)
  ·obtain⟨m,S⟩:∃m,b.out[a]? =some m:=⟨_,Qq oM⟩
   obtain⟨n,f1,es,ha,k6,k7,i2,xa,xn,xc,rfl,i3,c2⟩:=(b6.keep z.keep c8).el a m S;refine⟨n,f1,ha,oM,oM,cx (es:=aI m xa xn xc) (k:=10) (bh _ _ _ _) rfl (λa4 ht=>by rw[Qx];exact i2 a4 ht) (PA.mk λk8 i4 k9 i5=>aD (bh m xa xn xc) i5 rfl λl0 i6 l3 i7=>λi8 e8=>?_)⟩;have K:ai e7 i8:=(i4.new i6 λn P=>.inr (by have P:n=e7.heap.size:=P;omega)).then e8.keep;have a5:=bb.af c9 cd K;have l4:=z.keep.size;obtain⟨f2,f3,f5⟩:=a5.at' 3;refine⟨p,0,rfl,_,ae (a5.at' 0).2 rfl,ar (bh m xa xn xc) ((e8.keep (S:=λ_=>False)).get i7 id) (PC.ok (vj f2 (i3.af K) (λn P=>⟨by have:=b5 n P;have:=K.size;omega,λl=>i1 n P l.1⟩) c2 (by show((⟨c.aC.toNat,[]⟩:au).eD (b.out.take a)).l.length<_;omega)) ?_)⟩;rintro _ l5 ⟨rfl,F8,f4,f6⟩;have i9:((⟨c.aC.toNat,[]⟩:au).eD (b.out.take (a+1)))=(((⟨c.aC.toNat,[]⟩:au).eD (b.out.take a)).add m).2:=by
    rw[Qw,S];exact au.sr ..
   obtain⟨F9,a6,a7,o,-⟩:=a5.iJ cd (k:=3) (G':=F8) (C2:=mE p (({h with sp:=e,bp:=g,lp:=UV s}:ks).cells c self) {h with sp:=e,bp:=g,lp:=UV s} c {X with S:=(⟨c.aC.toNat,[]⟩:au).eD (b.out.take (a+1)),D:=b.D,log:=some b.V} []) f6 f4.aF (by rw[i9];exact⟨f4,f3.add c2,(au.Vn _ _).trans f5⟩) λa G i j=>by
    rcases a with _|_|_|_|_|_|_|a<;>first|exact j|exact Zz rfl i
   exact⟨_,rfl,_,oM,a+1,F9,a6,aq oM,oM,rfl,a7,z.trans ⟨(ai.keep K).then o.keep,λn P=>(o.new n P).imp id λh1=>by have:=K.size;omega⟩⟩
  ·rw[Qz oM]at c9 d0
   exact CL c9 (A.iJ (b4.trans z)) (λf9 m g3 S=>by simp at S) (by show((⟨c.aC.toNat,[]⟩:au).eD b.out).l.length<=_;omega) (κ:=λB w'=>Ok (λB w'=>B= WP 0/\((⟨c.aC.toNat,[]⟩:au).eD b.out).l.length<=16777216/\∃U q d,cQ w' q d p U c self {X with S:=(⟨c.aC.toNat,[]⟩:au).eD b.out,D:=b.D,log:=some b.V}/\cz F w q w') (.returned B) w')
    λw' q d a8 f7=>Ok.mk ⟨rfl,oM,_,q,d,a8,(b4.trans z).trans f7⟩

import Derived.Test.YtfchlbaidamodaaGreatDoorKa27
set_option linter.all false
set_option maxRecDepth 20000
namespace Go.Proofs.YtfchlbaidamodaaGreatDoor
open Go.ax
abbrev oA:=List (Int×List ah)
def dt (a:oA):List Int:=a.map (·.1)
def cI (a:oA) (b:List ah):List ah:=(a.map (·.2)).flatten++b
structure cE (D:ak) (A:oA) (no:Int) (l:List ah) (k:Nat):Prop where
 tidy:Tidy D.files
 full:∀x∈A,ay D.files (au x.1)=some (dB (ar x.2))
 last:∃s,ay D.files (au no)=some ⟨ar l,s,true⟩/\(ar (l.take k)).length<=s/\s<=(ar l).length
 kl:k<=l.length
 WV:ay D.files cg=some (dB (bW (dt A++[no])))
 AS:∀n∈dt A++[no],1<=n/\n<1000000000000
 Ac:(dt A++[no]).Pairwise (·<·)
 evs:∀e∈cI A l,e.Ok/\e.aK.length<=64
 many:A.length+1<=64
structure AV (V:cY) (A:oA) (no:Int) (l:List ah):Prop where
 aX:V.aX=dt A++[no]
 bytes:V.bytes=((ar l).length:Nat)
 next:no<V.next/\V.next<=1000000000000
theorem fk {n:Int} (e:dv (au n)=true\/0<=n/\n<1000000000000):au n≠cg/\au n≠aS:=by
 have c:cg.data.toList.take 4≠dV:=by decide+kernel
 have d:aS.data.toList.take 4≠dV:=by decide+kernel
 have a:(au n).data.toList.take 4=dV\/(au n).data.toList=[]:=by
  unfold au;rw [og];unfold aB;split
  ·exact .inr rfl
  ·exact .inl (by simp [dV])
 refine⟨λb=>?_,λb=>?_⟩
 ·rw [b]at a
  rcases a with a|a
  ·exact c a
  ·revert a;decide+kernel
 ·rw [b]at a
  rcases a with a|a
  ·exact d a
  ·revert a;decide+kernel
theorem gi {a b:Int} (c:0<=a/\a<1000000000000) (d:au b=au a):b=a:=Ka c.1 c.2 (Ox d)
variable{e:Int}{x:List UInt8}{C:List ah}{a c i:Nat}{a4 f:Nat->Prop}{d:Option Addr}{b k:World}{b1:cY}
theorem uy (b:0<=e):dv (au e)=true↔e<1000000000000:=by
 constructor
 ·intro a
  by_cases c:e<1000000000000
  ·exact c
  ·have:au e=cR []:=by unfold au aB;rw [if_pos (.inr oM)]
   have d:dv (cR [])=false:=by decide+kernel
   rw [this,d]at a;cases a
 ·intro a;exact Kb b a
theorem Dk (a:oA) (no:Int) (b c:List ah):cI (a++[(no,b)]) c=cI a b++c:=by simp [cI]
section
variable {D E:ak} {A:oA} {no:Int} {l x:List ah} {k j:Nat} {V:cY}
theorem cE.same (a:cE D A no l k) (e:Tidy E.files) (b:∀c∈dt A++[no],ay E.files (au c)=ay D.files (au c)) (f:ay E.files cg=ay D.files cg):cE E A no l k:=
 ⟨e,λx d=>(b x.1 (List.mem_append_left _ (Xk.2 ⟨x,d,rfl⟩))).trans (a.full x d),by
  obtain⟨g,h,i⟩:=a.last;exact⟨g,(b no (List.mem_append_right _ (List.mem_singleton.2 rfl))).trans h,i⟩,a.kl,f.trans a.WV,a.AS,a.Ac,a.evs,a.many⟩
theorem cE.files (b:cE D A no l k) (a:E.files=D.files):cE E A no l k:=b.same (by rw [a];exact b.tidy) (λ_ _=>by rw [a]) (by rw [a])
theorem cE.mL (a:cE D A no l k):1<=no/\no<1000000000000:=a.AS no (List.mem_append_right _ (List.mem_singleton.2 rfl))
theorem cE.Vu (b:cE D A no l k):∀a∈A,au a.1≠au no:=λa d e=>by
 have f:=b.mL;have:=gi ⟨oM,f.2⟩ e;have c:=b.Ac;rw [List.pairwise_append]at c;have:=c.2.2 a.1 (Xk.2 ⟨a,d,rfl⟩) no (List.mem_singleton.2 rfl);omega
theorem cE.put (a:cE D A no l k) {s d:Nat} (b:E.files=aJ D.files (au no) ⟨ar C,s,true⟩) (g:d<=C.length) (h:(ar (C.take d)).length<=s) (i:s<=(ar C).length) (j:∀c∈C,c.Ok/\c.aK.length<=64):cE E A no C d:=
 ⟨by rw [b];exact a.tidy.aJ _ _,λe f=>by rw [b,bu,if_neg (by simpa using a.Vu e f)];exact a.full e f,⟨s,by rw [b,bu];simp,h,i⟩,g,by
  have:=(fk (n:=no) (.inr (by have:=a.mL;omega))).1;rw [b,bu,if_neg (by simpa using this.symm)];exact a.WV,a.AS,a.Ac,λc b=>by
  rcases Q6.1 b with F|F
  ·exact a.evs c (List.mem_append_left _ F)
  ·exact j c F,a.many⟩
theorem cE.Yr (b:cE D A no l k):∀a∈l,a.Ok/\a.aK.length<=64:=λa c=>b.evs a (List.mem_append_right _ c)
theorem cE.rQ (a:AV V A no l):V.last=au no:=by unfold cY.last;rw [a.aX];simp [au]
theorem cE.mono (a:cE D A no l k) (b:j<=k):cE D A no l j:=by
 obtain⟨c,d,e,f⟩:=a.last;exact⟨a.tidy,a.full,⟨c,d,Xx (Dp b) e,f⟩,Xx b a.kl,a.WV,a.AS,a.Ac,a.evs,a.many⟩
theorem sK (a:cE D A no l k):((D.sync (au no)).1=0/\cE (D.sync (au no)).2 A no l l.length)\/((D.sync (au no)).1≠0/\cE (D.sync (au no)).2 A no l k):=by
 rcases iL D (au no)with⟨b,c⟩|⟨b,f,d,c⟩
 ·exact .inr ⟨b,a.files c⟩
 ·obtain⟨g,e,h,i⟩:=a.last
  rw [e]at d;cases d
  exact .inl ⟨b,a.put c (Q4 _) (by rw [List.take_length];exact Q4 _) (Q4 _) a.Yr⟩
theorem vl (o:Tidy D.files) (p:0<=V.next):((bF V D).1≠0/\(bF V D).2.1=V/\Tidy (bF V D).2.2.files/\∀x,x≠au V.next->x≠aS->ay (bF V D).2.2.files x=ay D.files x)\/
  ((bF V D).1=0/\V.next<1000000000000/\V.aX.length+1<=64/\ay D.files (au V.next)=none/\(bF V D).2.1=⟨V.size,V.aX++[V.next],0,V.next+1⟩/\Tidy (bF V D).2.2.files/\ay (bF V D).2.2.files (au V.next)=some (dB [])/\
   ay (bF V D).2.2.files cg=some (dB (bW (V.aX++[V.next])))/\∀x,x≠au V.next->x≠aS->x≠cg->ay (bF V D).2.2.files x=ay D.files x):=by
 unfold bF;dsimp only;rw [show cR (aB V.next)=au V.next from rfl];rcases lz D (au V.next)with⟨g,h⟩|⟨g,h,y,q⟩
 ·rw [if_pos g]
  exact .inl ⟨g,rfl,by show Tidy (D.create _).2.files;rw [h];exact o,λx _ _=>by show ay (D.create (au V.next)).2.files x=_;rw [h]⟩
 have r:=(uy p).1 h;obtain⟨z,nt⟩:=fk (n:=V.next) (.inr ⟨p,r⟩);rw [if_neg (show¬(D.create (au V.next)).1≠0 by simpa using g)];have i:uz (au V.next) D (D.create (au V.next)).2:=(uz.refl o).put q;have s:ay (D.create (au V.next)).2.files (au V.next)=some ⟨[],0,false⟩:=by rw [q,bu];simp
 generalize(D.create (au V.next)).2=b at i s;unfold m_;dsimp only;rw [show cR (aB V.next)=au V.next from rfl];have c:∀{F:ak},Tidy F.files->(∀x,x≠au V.next->x≠aS->ay F.files x=ay D.files x)->Tidy (F.delete (au V.next)).2.files/\∀x,x≠au V.next->x≠aS->ay (F.delete (au V.next)).2.files x=ay D.files x:=by
  intro F n t;rcases jA F (au V.next)with e|e
  ·rw [e];exact⟨n,t⟩
  ·rw [e];exact⟨n.bV _,λx a d=>by rw [gh n,if_neg (by simpa using a)];exact t x a d⟩
 rcases iL b (au V.next)with⟨j,f⟩|⟨j,H,u,f⟩
 ·rw [if_pos j]
  have:=c (F:=(b.sync (au V.next)).2) (by rw [f];exact i.1) λx a _=>by rw [f];exact i.2 x a
  exact .inl ⟨j,rfl,this⟩
 rw [s]at u;cases u
 have k:uz (au V.next) D (b.sync (au V.next)).2:=i.put f;have v:ay (b.sync (au V.next)).2.files (au V.next)=some (dB []):=by rw [f,bu];simp
 rw [if_neg (show¬(b.sync (au V.next)).1≠0 by simpa using j)];generalize(b.sync (au V.next)).2=A at k v;rcases Lx k.1 (V.aX++[V.next])with⟨l,m⟩|⟨l,m,B,C,w⟩
 ·rw [if_pos l]
  have:=c (F:=(bJ A (V.aX++[V.next])).2) m.1 λx a d=>(m.2 x d).trans (k.2 x a);exact .inl ⟨l,rfl,this⟩
 ·rw [if_neg (by simpa using l)]
  refine .inr ⟨rfl,r,by simpa using m,y,?_,B,(w _ nt z).trans v,C,λx a d E=>(w x d E).trans (k.2 x a)⟩;rw [wrap_i64 (by unfold aN;omega)]
theorem cE.bF (d:cE D A no l l.length) (k:AV V A no l):((bF V D).1≠0/\(bF V D).2.1=V/\cE (bF V D).2.2 A no l l.length)\/
  ((bF V D).1=0/\(bF V D).2.1.size=V.size/\cE (bF V D).2.2 (A++[(no,l)]) V.next [] 0/\AV (bF V D).2.1 (A++[(no,l)]) V.next []/\(bF V D).2.1.next=V.next+1):=by
 have I:=d.mL;have J:=k.next;have r:∀a∈dt A++[no],a<V.next:=λa c=>by
  rcases Q6.1 c with b|b
  ·have m:=d.Ac
   rw [List.pairwise_append]at m;have:=m.2.2 a b no (List.mem_singleton.2 rfl);omega
  ·have:=List.mem_singleton.1 b;omega
 have n:∀a∈dt A++[no],au a≠au V.next:=λa c f=>by
  have b:=d.AS a c;have m:=r a c;have:=gi (a:=a) ⟨oM,b.2⟩ f.symm;omega
 have g:∀a∈dt A++[no],au a≠cg/\au a≠aS:=λa c=>fk (.inr (by have:=d.AS a c;omega));have v:cg≠au V.next:=λf=>by
  by_cases K:V.next<1000000000000
  ·exact(fk (n:=V.next) (.inr oM)).1 f.symm
  ·have w:au V.next=cR []:=by unfold au aB;rw [if_pos (.inr oM)]
   rw [w]at f
   revert f;decide+kernel
 rcases vl (V:=V) d.tidy oM with⟨o,s,i,p⟩|⟨o,s,i,p,h,x,y,t,u⟩
 ·exact .inl ⟨o,s,d.same i (λa c=>p _ (n a c) (g a c).2) (p _ v λf=>AW f.symm)⟩
 ·rw [k.aX]at i t
  have z:A.length+1+1<=64:=by simpa [dt]using i
  have j:dt (A++[(no,l)])=dt A++[no]:=by simp [dt]
  refine .inr ⟨o,by rw [h],⟨x,λq B=>?_,⟨0,y,by simp [ar],Qj _⟩,Q4 _,by rw [j];exact t,?_,?_,by rw [Dk,List.append_nil];exact d.evs,by simpa using z⟩,⟨by rw [h,j,k.aX],by rw [h];simp [ar],by rw [h];simp only;omega⟩,by rw [h]⟩
  ·rcases Q6.1 B with b|b
   ·have e:q.1∈dt A++[no]:=List.mem_append_left _ (Xk.2 ⟨q,b,rfl⟩)
    rw [u _ (n _ e) (g _ e).2 (g _ e).1];exact d.full q b
   ·rw [List.mem_singleton]at b
    subst b;have e:no∈dt A++[no]:=List.mem_append_right _ (List.mem_singleton.2 rfl);obtain⟨C,E,F,L⟩:=d.last;rw [List.take_length]at F;have H:C=(ar l).length:=oM
    show ay _ (au no)=_;rw [u _ (n _ e) (g _ e).2 (g _ e).1,E,H];rfl
  ·rw [j]
   intro a c;rcases Q6.1 c with b|b
   ·exact d.AS a b
   ·have:=List.mem_singleton.1 b;omega
  ·rw [j,List.pairwise_append]
   exact⟨d.Ac,List.pairwise_singleton _ _,λa c M e=>by have:=List.mem_singleton.1 e;have:=r a c;omega⟩
theorem cE.begin (e:cE D A no l k) (c:AV V A no l):((aG V D).1≠0/\(aG V D).2.1=V/\cE (aG V D).2.2 A no l k)\/
  ((aG V D).1=0/\(aG V D).2.1.size=V.size/\cE (aG V D).2.2 (A++[(no,l)]) V.next [] 0/\AV (aG V D).2.1 (A++[(no,l)]) V.next []/\(aG V D).2.1.next=V.next+1):=by
 have f:¬V.aX=[]:=by rw [c.aX];simp
 have g:aG V D=if(D.sync (au no)).1≠0 then((D.sync (au no)).1,V,(D.sync (au no)).2)else Go.Proofs.YtfchlbaidamodaaGreatDoor.bF V (D.sync (au no)).2:=by
  unfold aG;rw [if_neg f,cE.rQ c]
 rw [g];rcases sK e with⟨a,d⟩|⟨a,d⟩
 ·rw [if_neg (by simpa using a)]
  rcases d.bF c with⟨h,i,j⟩|b
  ·exact .inl ⟨h,i,j.mono e.kl⟩
  ·exact .inr b
 ·rw [if_pos a];exact .inl ⟨a,rfl,d⟩
end
def bR (a:List ah):List UInt8×Int:=if a.any eD then([],3)else(ar a,0)
theorem LP (V:Laid b) (F:Row fZ 96 b f d a C) (W:∀e,f e->e<b.heap.size) (hl:C.length<=20000000):
  Calls ZQ 115 #[.slice d a c] b (Ok λX r=>∃H I J n,X= .tuple #[.slice H I J,QH (bR C).2]/\aV gq 5 n r H I J (bR C).1/\ai b r/\∀e,n e->b.heap.size<=e):=by
 have hn:=F.len;refine yb ⟨λK L N O P r=>∃(g:Nat) (n:Nat->Prop),P=g/\g<=a/\K=a-g/\(∀h∈C.take g,h.Ok/\h.aK.length<=64)/\(ar (C.take g)).length<=675*g/\aV gq 5 n r L N O (ar (C.take g))/\ai b r/\∀e,n e->b.heap.size<=e,
  ⟨_,0,λ_=>False,rfl,Qj _,rfl,sM,by simp [ar],aV.nil b,aj.refl _,λ_ v=>v.elim⟩,?_⟩
 rintro K L N O P _ Y ⟨g,n,rfl,hj,rfl,w,Z,p,o,x⟩;refine al.dec (λa9=>?_) (λb0=>?_)
 ·obtain⟨e,y,h,es,rfl,_,_,Q,l,a1,n1,c1,rfl,hd,t⟩:=(F.af o).sS (i:=g) oM
  have j:=λi (hi:i<10)=>l i hi;refine⟨e,y,rfl,oM,oM,_,_,_,_,_,_,_,_,_,_,_,_,j 0 dC,j 1 dC,j 2 dC,j 3 dC,j 4 dC,j 5 dC,j 6 dC,j 7 dC,j 8 dC,j 9 dC,PA.mk λw2 k2 s2 g2=>?_⟩;refine storeAll (aE h a1 n1 c1) g2 rfl λw3 k3 s3 k=>?_;have q:ai Y w3:=k2.new k3 λe m=>.inr oM;refine⟨_,_,_,_,_,_,_,_,_,_,_,_,ae k rfl,ae k rfl,ae k rfl,ae k rfl,ae k rfl,ae k rfl,ae k rfl,ae k rfl,ae k rfl,ae k rfl,?_⟩;refine PC.ok (FC (V.af (o.then q)) (hd.af q) t λe m=>by have:=W e m;have:=(o.then q).size;omega) ?_;rintro _ R ⟨a4,n4,c4,F4,rfl,s,S,T⟩
  by_cases u:h.aK.length<=64
  ·have z:=rk t u
   rw [z]at s⊢;have b1:=NW t u;refine⟨_,_,_,_,rfl,al.dw (λl=>absurd rfl l) (λ_=>?_)⟩;have A:=q.then S;have a0:Row gq 1 R F4 a4 n4 (nP h):=s.row (bytes:=1) dC (by unfold aQ;dsimp only;omega);have b2:=A.size;have b3:=q.size;refine sE (p.af A) ur a0 (λh=>s.Pq h) (λe m=>⟨s.aF e m,λl=>by have:=p.aF e (p.self e l);have:=T e m;omega⟩) (by unfold aQ;omega) (by unfold maxLen;omega) λb4 c5 w5 F5 a3 a6 a7 _=>?_;have B:C.take (g+1)=C.take g++[h]:=by rw [Qw,Q];rfl
   refine⟨_,_,_,rfl,a-(g+1),oM,g+1,F5,an oM,oM,rfl,?_,?_,?_,(o.then A).new a6 λe m=>.inr (by have:=x e (p.self e m);omega),?_⟩
   ·rw [B]
    intro a2 E;rcases Q6.1 E with M|M
    ·exact w a2 M
    ·simp at M;subst M;exact⟨t,u⟩
   ·rw [B,oS];simp;omega
   ·rw [B,oS];exact a3
   ·intro e m
    have:=o.size;rcases a7 e m with M|M|M
    ·exact x e M
    ·have:=T e M;omega
    ·omega
  ·have z:=y_ u
   rw [z]at s⊢;refine⟨_,_,_,_,rfl,al.dw (λ_=>?_) (λl=>absurd l dC)⟩;have a5:C.any eD=true:=List.any_eq_true.2 ⟨h,QZ Q,by unfold eD;simp;omega⟩;rw [show bR C=([],3) by unfold bR;rw [if_pos a5]];exact Ok.mk ⟨none,0,0,λ_=>False,rfl,aV.nil R,(o.then q).then S,λ_ v=>v.elim⟩
 ·obtain rfl:g=a:=oM
  rw [Qz oM]at w Z p;have a8:C.any eD=false:=by
   rw [<-Bool.not_eq_true];intro l;obtain⟨h,he,U⟩:=List.any_eq_true.1 l;have:=(w h he).2;unfold eD at U;simp at U;omega
  rw [show bR C=(ar C,0) by unfold bR;rw [if_neg (by simp [a8])]];exact Ok.mk ⟨_,_,_,n,rfl,p,o,x⟩
def bL (no:Int) (f:List UInt8) (D:ak):Int×ak:=
 let a:=cR (aB no)
 let b:=D.create a
 if b.1≠0 then(b.1,b.2)else
 let c:=b.2.append a f
 if c.1≠0 then(c.1,(c.2.delete a).2)else
 let d:=c.2.sync a
 if d.1≠0 then(d.1,(d.2.delete a).2)else
 let e:=bJ d.2 [no]
 (e.1,if e.1≠0 then(e.2.delete a).2 else e.2)
theorem Ps {D:ak} {no:Int} (hL:Laid b) (M:bf b k a D f) (R:aN no) (h:Row gq 1 k a4 d c x) (c4:d=none->c=0/\i=0) (b2:∀e,a4 e->f e):
  Calls ZQ 116 #[.pointer (some ⟨a,0,none⟩),QH no,.slice d c i] k (Ok (nQ b k a f (bL no x D))):=by
 have e3:=M.gr.size;have S:∀e,f e->e<k.heap.size:=by obtain⟨a3,f1,f2,T,U⟩:=M;exact U
 refine Ai (PA.mk λy k1 s1 g1=>PA.mk λw2 V s2 g2=>PC.ok (jV (hL.af ((M.gr.then k1).then V)) R) ?_);rintro _ W ⟨rfl,N⟩;have z3:=N.size;refine⟨_,rfl,PA.mk λw4 X s4 g4=>PS.mk g4 sM λY Z s5 g5=>?_⟩
 let t:Nat->Prop:=λe=>f e\/(e=k.heap.size\/e=y.heap.size\/e=W.heap.size)
 have b3:ai k Y:=((((k1.then V).then N).then X)).new Z λe h=>.inr oM;have c9:bf b Y a D t:=M.add b3 λe h=>by omega
 let z:World->Int->Prop:=λl n=>l.heap[k.heap.size]? =some (.cells #[.pointer (some ⟨a,0,none⟩)] 87 (0,0))/\l.heap[y.heap.size]? =some (.cells #[QH n] 34 (0,0))/\l.heap[W.heap.size]? =some (.cells #[.string (cR (aB no))] 9 (0,0))
 have C5:z Y 0:=⟨Z.get (X.get (N.get (V.get g1 id) id) id) oM,Z.get (X.get (N.get g2 id) id) oM,g5⟩
 have j:∀{l p:World} {n:Int},z l n->aj (et t) l p->z p n:=λo u=>
  ⟨u.get o.1 λq=>q (.inr (.inl rfl)),u.get o.2.1 λq=>q (.inr (.inr (.inl rfl))),u.get o.2.2 λq=>q (.inr (.inr (.inr rfl)))⟩
 have I:∀{l p:World},aj (et f) k l->aj (et t) l p->aj (et f) k p:=λd e=>d.then (e.mono λe _ h r=>h (.inl r));have g:∀{l:World} {n C:Int} {v:ak} {κ:World->Prop},z l n->bf b l a v t->aj (et f) k l->(∀p,z p C->bf b p a v t->aj (et f) k p->aj (·=y.heap.size) l p->κ p)->PS l ⟨y.heap.size,0,none⟩ (QH C) κ:=by
  intro l n C v κ o hN u a0;have h1:=aC o.2.1;refine PS.mk o.2.1 sM λp A e4 d0=>a0 p ⟨A.get o.1 oM,d0,A.get o.2.2 oM⟩ ?_ (u.then (A.mono λe _ h r=>by have:=S e r;omega)) A;obtain⟨a3,f1,f2,T,U⟩:=hN;exact⟨a3,f1.keep A λe h n=>(T e h).2 (.inr (.inr (.inl n))),f2.new A λe h=>.inr oM,T,λe h=>Qk (U e h) A.size⟩
 have m:∀{J:Int×ak} (n:Int) (v:ak) (l:World),bf b l a v t->aj (et f) k l->z l n->J=(n,if n≠0 then(v.delete (cR (aB no))).2 else v)->
   Lv ZQ (λb4=>∃b5:Int,b4.cell? ⟨y.heap.size,0,none⟩=some (QH b5)/\Ok (nQ b k a f J) (.returned (QH b5)) b4) (λch l=>Ok (nQ b k a f J) (.panicked ch) l)
    ([{target:=.fn (.func 170) #[.pointer (some ⟨y.heap.size,0,none⟩),.pointer (some ⟨k.heap.size,0,none⟩),.pointer (some ⟨W.heap.size,0,none⟩)],args:= #[]}]:List Deferred) .returning l:=by
  intro J n v l q u o hr;refine Lv.one sM kR (CallsD.mono (uG (R:=λC K=>C= .returned (.tuple #[])/\∃b6:Int,K.cell? ⟨y.heap.size,0,none⟩=some (QH b6)/\Ok (nQ b k a f J) (.returned (QH b6)) K) ⟨_,ae o.2.1 rfl,al.dw (λs=>⟨_,ae o.1 rfl,_,ae o.2.2 rfl,PC.ok q.delete ?_⟩) (λB=>⟨rfl,_,ae o.2.1 rfl,Ok.mk ?_⟩)⟩) ?_)
  ·rintro _ wb ⟨rfl,d1,kb⟩
   have d2:=j o kb;refine⟨_,rfl,rfl,_,ae d2.2.1 rfl,Ok.mk ?_⟩;rw [hr,if_pos s];exact⟨rfl,d1.mono λe h=>.inl h,I u kb⟩
  ·rw [hr,if_neg (by simpa using B)]
   exact⟨rfl,q.mono λe h=>.inl h,u⟩
  ·rintro C u' K ⟨rfl,rfl,S⟩
   exact Lv.ret rfl S
 refine⟨_,ae C5.1 rfl,_,ae C5.2.2 rfl,PC.ok c9.create ?_⟩;rintro _ w6 ⟨rfl,b7,k6⟩;have C6:=j C5 k6;have d3:=I (ai.keep b3) k6;have hW:bL no x D=if(D.create (cR (aB no))).1≠0 then((D.create (cR (aB no))).1,(D.create (cR (aB no))).2)else
   if((D.create (cR (aB no))).2.append (cR (aB no)) x).1≠0 then(((D.create (cR (aB no))).2.append (cR (aB no)) x).1,(((D.create (cR (aB no))).2.append (cR (aB no)) x).2.delete (cR (aB no))).2)else
   if((((D.create (cR (aB no))).2.append (cR (aB no)) x).2).sync (cR (aB no))).1≠0 then(((((D.create (cR (aB no))).2.append (cR (aB no)) x).2).sync (cR (aB no))).1,(((((D.create (cR (aB no))).2.append (cR (aB no)) x).2).sync (cR (aB no))).2.delete (cR (aB no))).2)else
   ((bJ ((((D.create (cR (aB no))).2.append (cR (aB no)) x).2).sync (cR (aB no))).2 [no]).1,if(bJ ((((D.create (cR (aB no))).2.append (cR (aB no)) x).2).sync (cR (aB no))).2 [no]).1≠0 then((bJ ((((D.create (cR (aB no))).2.append (cR (aB no)) x).2).sync (cR (aB no))).2 [no]).2.delete (cR (aB no))).2 else(bJ ((((D.create (cR (aB no))).2.append (cR (aB no)) x).2).sync (cR (aB no))).2 [no]).2):=rfl
 rw [hW];generalize D.create (cR (aB no))=cr at b7⊢;refine⟨_,rfl,g C6 b7 d3 λK E b8 a5 k7=>⟨_,ae E.2.1 rfl,al.dw (λs=>?_) (λB=>?_)⟩⟩
 ·refine⟨_,ae E.2.1 rfl,g E b8 a5 λw8 C8 O a6 k8=>⟨_,ae C8.2.1 rfl,Ok.mk ?_⟩⟩
  rw [if_pos s];exact⟨rfl,O.mono λe h=>.inl h,a6⟩
 rw [if_neg (by simpa using B)];have d4:Row gq 1 K a4 d c x:=h.keep a5 λe h q=>q (b2 e h);refine⟨_,ae E.1 rfl,_,ae E.2.2 rfl,PC.ok (b8.append d4 c4 λe h=>.inr (.inl (b2 e h))) ?_⟩;rintro _ w8 ⟨rfl,O,k8⟩;have C8:=j E k8;have a6:=I a5 k8;generalize cr.2.append (cR (aB no)) x=ap at O⊢;refine⟨_,rfl,g C8 O a6 λw9 F b9 c0 k9=>⟨_,ae F.2.1 rfl,al.dw (λs=>?_) (λB=>?_)⟩⟩
 ·refine⟨_,ae F.2.1 rfl,g F b9 c0 λc1 a7 P a1 a8=>?_⟩
  rw [if_pos s];exact m _ _ c1 P a1 a7 (by rw [if_pos s])
 rw [if_neg (by simpa using B)];refine⟨_,ae F.1 rfl,_,ae F.2.2 rfl,PC.ok b9.sync ?_⟩;rintro _ c1 ⟨rfl,P,a8⟩;have a7:=j F a8;have a1:=I c0 a8;generalize ap.2.sync (cR (aB no))=sy at P⊢;refine⟨_,rfl,g a7 P a1 λa9 L b1 c2 e5=>⟨_,ae L.2.1 rfl,al.dw (λs=>?_) (λB=>?_)⟩⟩
 ·refine⟨_,ae L.2.1 rfl,g L b1 c2 λH b0 a2 c5 Q=>?_⟩
  rw [if_pos s];exact m _ _ H a2 c5 b0 (by rw [if_pos s])
 rw [if_neg (by simpa using B)];refine⟨_,ae L.1 rfl,PA.mk λH Q e6 c3=>?_⟩;have a2:bf b H a sy.2 (λe=>t e\/e=a9.heap.size):=b1.add Q λe h=>by subst h;exact⟨Q4 _,aC c3⟩
 have c6:Row aP 8 H (·=a9.heap.size) (some ⟨a9.heap.size,0,none⟩) 1 [no]:=Row.lit c3 [no] rfl (λc7 r=>by simp at r;subst r;exact R) (by unfold aQ;simp);refine PC.ok (a2.bJ hL.oH c6 (λc7 r=>by simp at r;subst r;exact R) λe h=>.inr (.inr h)) ?_;rintro _ d5 ⟨rfl,c8,d6⟩;have w:aj (et t) H d5:=d6.mono λe _ h hy=>h (.inl hy);have b0:z H sy.1:=j L (ai.keep Q);have d7:=j b0 w;have d8:=I (c2.af Q) w;exact⟨_,rfl,g d7 (c8.mono λe h=>.inl h) d8 λd9 e0 e1 e2 e7=>m _ _ d9 e1 e2 e0 rfl⟩
def jC:List Int->ak->ak
 |[],D=>D
 |no::a,D=>if(D.delete (au no)).1≠0 then(D.delete (au no)).2 else jC a (D.delete (au no)).2
def aU (a:cY) (D:ak) (b:List ah) (c:Int):oT:=
 if(bR b).2≠0 then⟨(bR b).2,[],a,D⟩else
 if(bL a.next (bR b).1 D).1≠0 then⟨(bL a.next (bR b).1 D).1,[],a,(bL a.next (bR b).1 D).2⟩else
 aM (jC a.aX (bL a.next (bR b).1 D).2) c
def LQ (e i:World) (f j:Nat) (k:cY) (c:Nat->Prop) (b:oT) (g:Value) (d:World):Prop:=
 ∃G,jr d f j G k/\(∀a,G a->e.heap.size<=a/\¬c a)/\aj (et c) i d/\
  ((b.no≠0/\g= .tuple #[.pointer none,QH b.no]/\bf e d f b.D (λa=>c a\/G a))\/
   (b.no=0/\∃h,g= .tuple #[.pointer (some ⟨h,0,none⟩),QH 0]/\cQ e d f h b.V b.D (λa=>c a\/G a)))
theorem Jo {D:ak} {U a5:Nat} (A:Laid b) (V:cQ b k a c b1 D f) (W:Row fZ 96 k a4 d U C) (b3:∀g,a4 g->g<k.heap.size) (hl:C.length<=20000000):
  Calls ZQ 60 #[.pointer (some ⟨a,0,none⟩),.pointer (some ⟨c,0,none⟩),.slice d U a5,QH e] k (Ok (LQ b k a c b1 f (aU b1 D C e))):=by
 obtain⟨G,J,v,B⟩:=id V;have d0:=v.many;refine vQ (PC.ok (LP (A.af V.gr) W b3 hl) ?_);rintro _ w1 ⟨b4,n1,c1,F1,rfl,K,q,b5⟩;have hz:∀g,(f g\/G g)->g<k.heap.size:=by obtain⟨d1,f1,f2,f3,f4⟩:=J;exact f4
 refine⟨_,_,_,_,rfl,al.dw (λl=>Ok.mk ?_) (λr=>PC.ok (RP (v.af q)) ?_)⟩
 ·rw [show aU b1 D C e=⟨(bR C).2,[],b1,D⟩ by unfold aU;rw [if_pos l]]
  exact⟨G,v.af q,B,ai.keep q,.inl ⟨l,rfl,J.af q⟩⟩
 rintro _ _ ⟨rfl,rfl⟩;have b6:bf b w1 a D (λg=>(f g\/G g)\/F1 g):=J.add q λg h=>⟨b5 g h,K.aF g h⟩
 have d2:(bR C).1.length<=13500000000:=by
  unfold bR;split
  ·simp
  ·rename_i b8
   have:∀o∈C,o.Ok/\o.aK.length<=64:=λo X=>by
    obtain⟨i,hi⟩:=List.mem_iff_getElem?.1 X;obtain⟨g,w,es,-,-,-,-,b4,n1,c1,-,-,b9⟩:=W.el i o hi;refine⟨b9,?_⟩;have:¬eD o=true:=λL=>b8 (List.any_eq_true.2 ⟨o,X,L⟩);unfold eD at this;simp at this;omega
   have:=wv this;show(ar C).length<=_;omega
 refine⟨_,rfl,PC.ok (Ps A b6 v.Cj (K.row (bytes:=1) dC (by unfold aQ;omega)) (λo=>K.Pq o) λg h=>.inr h) ?_⟩;rintro _ Y ⟨rfl,c0,Z⟩;have M:bf b Y a (bL b1.next (bR C).1 D).2 (λg=>f g\/G g):=c0.mono λg h=>.inl h;have N:=(v.af q).keep Z λg h m=>m (.inl (.inr h));have a6:aj (et f) k Y:=(ai.keep q).then (Z.mono λg _ h n=>h (.inl (.inl n)));have hC:aU b1 D C e=if(bL b1.next (bR C).1 D).1≠0 then⟨(bL b1.next (bR C).1 D).1,[],b1,(bL b1.next (bR C).1 D).2⟩else aM (jC b1.aX (bL b1.next (bR C).1 D).2) e:=by
  unfold aU;rw [if_neg (by simpa using r)]
 rw [hC];generalize bL b1.next (bR C).1 D=x at M⊢;refine⟨_,rfl,al.dw (λl=>Ok.mk ?_) (λr=>?_)⟩
 ·rw [if_pos l]
  exact⟨G,N,B,a6,.inl ⟨l,rfl,M⟩⟩
 rw [if_neg (by simpa using r)];refine⟨λp=>bf b p a (jC b1.aX x.2) (λg=>f g\/G g)/\jr p a c G b1/\aj (et f) k p,PC.ok (HA N) ?_,?_⟩
 ·rintro _ w3 ⟨a3,t,c3,E,rfl,O,P,c2⟩
  have d3:=O.len dC;have Q:bf b w3 a x.2 (λg=>(f g\/G g)\/E g):=M.add P λg h=>⟨c2 g h,O.aF g h⟩
  refine⟨_,_,_,rfl,λa0 a1 p=>∃(j:Nat) (s:ak),a1=j/\j<=t/\a0=t-j/\jC b1.aX x.2=jC (b1.aX.drop j) s/\bf b p a s (λg=>(f g\/G g)\/E g)/\aV aP 3 E p a3 t c3 b1.aX/\jr p a c G b1/\aj (et f) k p,
   ⟨_,0,x.2,rfl,Qj _,rfl,rfl,Q,O,N.af P,a6.af P⟩,?_⟩
  rintro a0 a1 _ w4 ⟨j,s,rfl,hj,rfl,F,y,R,a7,a8⟩;refine al.dec (λd4=>?_) (λd5=>?_)
  ·have c5:Row aP 8 w4 E a3 t b1.aX:=R.row dC (by unfold aQ;omega)
   obtain⟨g,w,u,rfl,n,c6,L⟩:=c5.mh (i:=j) oM;refine⟨g,w,rfl,oM,oM,u,L,PC.ok (jV (A.af y.gr) c6) ?_⟩;rintro _ w5 ⟨rfl,H⟩;refine⟨_,rfl,PC.ok (y.af H).delete ?_⟩;rintro _ w6 ⟨rfl,S,T⟩;have b7:b1.aX.drop j=u::b1.aX.drop (j+1):=by
    obtain⟨c7,rfl⟩:=Qv.1 n;exact X4 c7
   rw [b7]at F;have I:jC b1.aX x.2=if(s.delete (cR (aB u))).1≠0 then(s.delete (cR (aB u))).2 else jC (b1.aX.drop (j+1)) (s.delete (cR (aB u))).2:=F
   have a9:=(a7.af H).keep T λg h m=>m (.inl (.inr h));have b0:aj (et f) k w6:=(a8.af H).then (T.mono λg _ h n=>h (.inl (.inl n)));have c8:=(R.af H).keep T λg h m=>m (.inr h);generalize s.delete (cR (aB u))=c4 at I S⊢;refine⟨_,rfl,al.dw (λl=>?_) (λr=>?_)⟩
   ·rw [I,if_pos l]
    exact⟨S.mono λg h=>.inl h,a9,b0⟩
   ·rw [if_neg (by simpa using r)]at I
    exact⟨t-(j+1),oM,j+1,c4.2,an oM,oM,rfl,I,S,c8,a9,b0⟩
  ·obtain rfl:j=t:=oM
   rw [List.drop_of_length_le oM]at F;rw [F];exact⟨y.mono λg h=>.inl h,a7,a8⟩
 ·rintro _ w3 ⟨Q,a2,b2⟩
  refine PC.ok (Jp (size:=e) A Q) ?_;rintro _ w4 (⟨l,rfl,y,z⟩|⟨r,q2,d6,n4,d7,G4,rfl,R,c9,z,-,-,-⟩)
  ·exact⟨_,_,_,_,_,rfl,Ok.mk ⟨G,a2.keep z λg h m=>m (.inr h),B,b2.then (z.mono λg _ h n=>h (.inl n)),.inl ⟨l,rfl,y⟩⟩⟩
  ·exact⟨_,_,_,_,_,rfl,Ok.mk ⟨G,a2.keep z λg h m=>m (.inr h),B,b2.then (z.mono λg _ h n=>h (.inl n)),.inr ⟨r,q2,rfl,c9.mono λg h=>.inl h⟩⟩⟩
theorem RW:Reads ZQ fZ 59:=λa5 t a6 a7 b cs c u v=>by
 obtain⟨w,n2,_,rfl,x,y,a⟩:=DataW.trod_struct (Tryz.underlying59) u;have z:Tryz.prog.cellsOf 59=10:=kR
 have A:cs.length=10:=x.trans z;have d:Tryz.prog.cellsOf 3=1:=kR
 have e:Tryz.prog.cellsOf 39=2:=kR
 have f:Tryz.prog.cellsOf 55=1:=kR
 match cs,A with
 |[v0,v1,v2,v3,v4,v5,v6,v7,v8,v9],_=>
 match w,y with
 |[y0,y1,B,y3,y4,y5,y6,y7,y8],_=>
  have g:=a 0 _ rfl;have h:=a 1 _ rfl;have i:=a 2 _ rfl;have j:=a 3 _ rfl;have k:=a 4 _ rfl;have l:=a 5 _ rfl;have m:=a 6 _ rfl;have n:=a 7 _ rfl;have o:=a 8 _ rfl;simp only [d,e,f,List.drop_zero,List.drop_succ_cons,List.take_succ_cons,List.take_zero,List.getElem?_cons_zero,List.getElem?_cons_succ]at g h i j k l m n o;obtain⟨C,n3,_,a8,a9,E,p⟩:=DataW.trod_struct (Tryz.underlying39) g
  match C,E with
  |[u0,u1],_=>
  have q:=p 0 _ rfl;have r:=p 1 _ rfl;simp only [d,e,f,List.drop_zero,List.drop_succ_cons,List.take_succ_cons,List.take_zero,List.getElem?_cons_zero,List.getElem?_cons_succ]at q r;obtain⟨F,H,-,I⟩:=DataW.trod_int Tryz.underlying3 q;obtain⟨z1,J,-,K⟩:=DataW.trod_int Tryz.underlying3 r;obtain⟨L,M,-,N⟩:=DataW.trod_int Tryz.underlying3 h;obtain⟨O,P,-,Q⟩:=DataW.trod_int Tryz.underlying3 j;obtain⟨R,S,-,T⟩:=DataW.trod_int Tryz.underlying3 k;obtain⟨U,V,-,W⟩:=DataW.trod_int Tryz.underlying3 l;obtain⟨X,Y,-,Z⟩:=DataW.trod_int Tryz.underlying3 m;obtain⟨z8,e8,-,w8⟩:=DataW.trod_int Tryz.underlying3 n;obtain⟨z9,e9,-,w9⟩:=DataW.trod_int Tryz.underlying3 o;have a0:jW ZQ 55 B.1:=by
   intro a1 hq;refine v a1 ?_;have hu:Tryz.prog.underlying 59=_:=Tryz.underlying59;simp only [DataW.weights,hu,QY,List.map_nil,DataW.weightsEach,Q6];right;right;left;exact hq
  obtain⟨a3,n4,c4,l4,e3,-,-,s⟩:=open_row (bytes:=8) Tryz.underlying55 kR dC kR (yC Tryz.underlying3) i a0
  cases H;cases J;cases M;cases e3;cases P;cases S;cases V;cases Y;cases e8;cases e9
  exact⟨⟨F,z1,L,l4,O,R,U,X,z8,z9⟩,a3,n4,c4,rfl,s,aT I,aT K,aT N,λc hx=>by
   obtain⟨a2,hi⟩:=List.mem_iff_getElem?.1 hx;obtain⟨b0,a4,es,-,-,-,-,hr⟩:=s.el a2 c hi;exact hr.2,aT Q,aT T,aT W,aT Z,aT w8,aT w9⟩
end Go.Proofs.YtfchlbaidamodaaGreatDoor
namespace Go.Proofs
open Go.RowKit Go.Maps Go.Sort Go.Shelf
theorem Tryz.WQ (d:Nat):AnyZI.SortsIn Tryz.prog Tryz.zR Fence.wide d:=
 ⟨λaI b a e c f g h=>callsIn_wide.2 (AnyM.slices_Sort_int Tryz.xq aI b a e c f g h),
  λi a c=>callsIn_wide.2 (AnyM.slices_Sort_int_none Tryz.xq i a c)⟩
end Go.Proofs
namespace Go.Proofs.YtfchlbaidamodaaGreatDoor
open Go.ax
open Go.RowKit Go.Maps Go.Sort Go.Shelf
def xq (a:List Int):List Int:=a.mergeSort (λb c=>decide (b<=c))
variable{g8:List (Int×Value)}{a c:Nat}{H:Nat×Nat}{g:TypeId}{b:World}
theorem AQ (x:cx b a (Value.int .i64) g8) (I:∀i∈g8,aN i.1) (y:g8.length*8<=aQ) 
  (z:b.heap[c]? =some (.cells #[.map (some a)] g H)):
  Calls ZQ 239 #[.func (.func 289) #[] #[.pointer (some ⟨c,0,none⟩)]] b
   (Ok λq A=>Ix b 3 (xq (g8.map (·.1))) q A):=by
 unfold aQ at y;obtain⟨f,j,J,n,K,L⟩:=x.at';have M:Tryz.prog.underlying 3=some (.int .i64):=Tryz.underlying3;have N:f.size=g8.length:=by have:=congrArg List.length n;simpa using this
 have O:∀d:Int,aN d->(Lit.int .i64 d).wf=true:=λd k=>by unfold aN at k;simp [Lit.wf,IntKind.min,IntKind.max,IntKind.signed,IntKind.bits];omega
 have B:∀e∈f.toList,∃d,e.key=Value.int .i64 d/\aN d:=λe h=>by
  have P:(e.key,e.val)∈g8.map (λi=>(Value.int .i64 i.1,i.2)):=by rw [<-n];exact Xk.2 ⟨e,h,rfl⟩
  obtain⟨i,Q,R⟩:=Xk.1 P;exact⟨i.1,(Prod.mk.inj R).1.symm,I i Q⟩
 have C:∀e∈f.toList,∀d,e.key=Value.int .i64 d->aN d->WideElems.rd ZQ 3 (λ_=>some ((.nil:DataW Unit),[])) e=some (.int .i64 d,.nil):=λe _ d k l=>by
  simp [WideElems.rd,k,Maps.keyOf_int_mk M (O d l)]
 have S:WideElems.Fit ZQ 3 (λ_=>some ((.nil:DataW Unit),[])) f j:=by
  refine⟨by unfold maxLen;omega,⟨K,L,?_⟩,λe h=>?_⟩
  ·have:f.toList.map (·.key)=(g8.map (·.1)).map (Value.int .i64):=by
    have:=congrArg (List.map (λr:Value×Value=>r.1)) n;simpa [Function.comp_def]using this
   rw [this];exact List.pairwise_map.2 (List.Pairwise.imp (λT=>by simpa using T) x.tidy)
  ·obtain⟨d,k,l⟩:=B e h
   exact⟨_,C e h d k l⟩
 have U:b.ownsMap ZQ 3 (λ_=>some ((.nil:DataW Unit),[])) a f.size (.map ((f.toList.map (WideElems.rg ZQ 3 (λ_=>some ((.nil:DataW Unit),[])))).foldr DataW.insert [])):=
  ⟨f,j,J,S,Q4 _,rfl⟩
 have E:Maps.size (.map ((f.toList.map (WideElems.rg ZQ 3 (λ_=>some ((.nil:DataW Unit),[])))).foldr DataW.insert []))=g8.length:=by
  show(List.foldr DataW.insert [] _).length=_;rw [(WideShapes.sorted_perm _).length_eq];simp [N]
 have V:(intKeys (.map ((f.toList.map (WideElems.rg ZQ 3 (λ_=>some ((.nil:DataW Unit),[])))).foldr DataW.insert []))).Perm (g8.map (·.1)):=by
  refine(List.Perm.map (λi:Lit×DataW Unit=>Go.intOf i.1) (WideShapes.sorted_perm _)).trans ?_;have:(f.toList.map (WideElems.rg ZQ 3 (λ_=>some ((.nil:DataW Unit),[])))).map (λi=>Go.intOf i.1)=g8.map (·.1):=by
   have W:f.toList.map (λe=>match e.key with| .int _ d=>d|_=>0)=g8.map (·.1):=by
    have:=congrArg (List.map (λr:Value×Value=>match r.1 with| .int _ d=>d|_=>0)) n;simpa [Function.comp_def]using this
   rw [<-W,List.map_map];refine List.map_congr_left λe h=>?_;obtain⟨d,k,l⟩:=B e h;simp [WideElems.rg,C e h d k l,k,Go.intOf]
  rw [this]
 have X:SeqGives Fence.wide 1 ZQ 289 #[.pointer (some ⟨c,0,none⟩)] encZ (λm=>m.Perm (intKeys _)) (Maps.size _) b:=
  AnyZI.keys_gives (ρ:=Tryz.GD) {Tryz.Yf with} Fence.wide _ trivial rfl oM c a f.size _ b (aC z) (ae z rfl) U
 have Y:=AnyZI.sorted_in Tryz.UY Fence.wide 4 trivial trivial trivial trivial rfl oM (Tryz.WQ _) (enters_of Tryz.func288 kR rfl) 289 #[.pointer (some ⟨c,0,none⟩)] trivial
  (enters_of Tryz.func289 kR rfl) _ _ (by rw [E];unfold maxLen;omega) (by rw [E];exact y) b X
 refine((callsIn_wide (n:=4)).1 Y).mono ?_;rintro e A ⟨q,m,rfl,Z,o,a5,s⟩;have F:m.mergeSort (λd a0=>decide (d<=a0))=xq (g8.map (·.1)):=mergeSort_of_perm_i (Z.trans V);have a6:m.length=(xq (g8.map (·.1))).length:=by rw [<-F];simp
 rw [F]at o;have hv:∃t u,q= .slice t m.length u:=by
  rcases o.2 with⟨rfl,h0⟩|⟨g',v,w,rfl,_⟩
  ·exact⟨none,0,by rw [h0]⟩
  ·exact⟨_,_,rfl⟩
 obtain⟨t,u,rfl⟩:=hv;refine Ok.mk ⟨t,_,u,rfl,⟨ownsRow_base_a o (Qj _)⟩,aj.IQ s,λa1 p=>?_⟩;rcases o.2 with⟨h,_⟩|⟨g',v,w,h,a7,_⟩
 ·simp only [XX]at h
  rw [h.1]at p;cases p
 ·simp only [XX]at h
  rw [h.1]at p;simp only [aI,Q1]at p;omega
end Go.Proofs.YtfchlbaidamodaaGreatDoor
namespace Go.Proofs.YtfchlbaidamodaaGreatDoor
open Go.ax
structure kr where
 dx:Int
 asked:List (Int×Int)
 heard:List (Int×List Int)
 deriving DecidableEq
def Zd (a:Value) (b:Int):Prop:=a= QH b
def QL (f:World) (g:Nat->Prop) (h:Value) (c:List Int):Prop:=
 ∃a b d,h= .slice a b d/\Own f 3 1 a b d (ints c)/\b*8<=aQ/\(∀i∈c,aN i)/\∀e,aI a=some e->g e
theorem QL.keep {S d F':Nat->Prop} {c g:World} {h:Value} {i:List Int} (e:QL c d h i) (n:aj S c g) (o:∀a,d a->a<c.heap.size->(∃j,c.heap[a]? =some j/\∀k l,j≠.map k l)->¬S a) (p:∀a,d a->F' a):QL g F' h i:=by
 obtain⟨q,r,s,rfl,f,b,t,m⟩:=e;refine⟨q,r,s,rfl,f.keep n (dN.2 λa b=>?_),b,t,λa b=>p a (m a b)⟩;refine o a (m a b) (f.lt b) ?_;rcases f.cases with⟨rfl,_⟩|⟨w,u,rfl,v,_⟩
 ·cases b
 ·simp only [aI,Q1]at b
  subst b;exact⟨_,v,λk l e=>by cases e⟩
structure eG (w:World) (p:Nat) (F:Nat->Prop) (T:kr):Prop where
 body:∃ra rh la lh,w.heap[p]? =some (.cells #[QH T.dx,.map (some ra),.map (some rh)] 150 (0,0))/\cx w ra (Value.int .i64) la/\cx w rh (Value.int .i64) lh/\
  fJ Zd la T.asked/\fJ (QL w F) lh T.heard/\F ra/\F rh/\ra≠rh
 self:F p
 aF:∀b,F b->b<w.heap.size
 KQ:Tidy T.asked
 tQ:∀q∈T.asked,aN q.1
variable{e m:Int}{h7:List (Int×List Int)}{g8:List (Int×Value)}{b3 u:List Int}{c8:List dz}{E a c i l:Nat}{f:Nat->Prop}{H:Nat×Nat}{d p:Option Addr}{h:Program}{j:Type}{g q:TypeId}{v:Value}{o t:Value->World->Prop}{b k:World}{b7:kr}
theorem eG.keep {S g:Nat->Prop} (c:eG b a g b7) (e:aj S b k) (f:∀d,g d->¬S d):eG k a g b7:=by
 obtain⟨l,m,n,o,p,q,r,s,t,i,j,u⟩:=c.body;exact⟨⟨l,m,n,o,e.get p (f _ c.self),q.keep e (f _ i),r.keep e (f _ j),s,t.mono λw x v=>v.keep e (λd h _ _=>f d h) (λ_ c=>c),i,j,u⟩,
  c.self,λd h=>Qk (c.aF d h) e.size,c.KQ,c.tQ⟩
theorem eG.af (c:eG b a f b7) (d:ai b k):eG k a f b7:=c.keep d λ_ _ c=>c
theorem kI:jh ZQ 3 (Value.int .i64):=Xc Tryz.underlying3
theorem mA:nu ZQ 147 3 3 (QH 0):=⟨kR,kR⟩
theorem mH:nu ZQ 148 3 55 (.slice none 0 0):=⟨kR,kR⟩
theorem Kv :Calls ZQ 37 #[QH e] b
  (Ok λj f=>∃g h,j= .pointer (some ⟨g,0,none⟩)/\eG f g h ⟨e,[],[]⟩/\ai b f/\∀a,h a->b.heap.size<=a):=by
 refine Et (PA.mk λk l r m=>PA.mk λn i s o=>PA.mk λp c t q=>Ok.mk ⟨n.heap.size,λa=>b.heap.size<=a/\a<p.heap.size,rfl,
  ⟨⟨b.heap.size,k.heap.size,[],[],q,cx.new (c.get (i.get m id) id),cx.new (c.get o id),trivial,trivial,oM,oM,oM⟩,oM,λa d=>d.2,by simp [Tidy],sM⟩,
  (l.af i).af c,λa d=>d.1⟩)
theorem KB (c:eG b a f b7) (u:aN e):
  Calls ZQ 94 #[.pointer (some ⟨a,0,none⟩),QH e,QH m] b
   (Ok λq k=>q= .tuple #[]/\eG k a f {b7 with asked:=aJ b7.asked e m}/\aj f b k):=by
 obtain⟨d,v,L,w,l,r,x,y,z,s,A,t⟩:=c.body;have B:∃g h,b.heap[d]? =some (.map g h):=by obtain⟨g,h,c,_⟩:=r.at';exact⟨g,h,c⟩
 obtain⟨g,h,n⟩:=B;have C:a≠d:=by rintro rfl;rw [l]at n;cases n
 refine qb ⟨a,0,rfl,some d,ae l rfl,jz mA kI r λk E i F=>Ok.mk ⟨rfl,⟨⟨d,v,_,w,i.get l C,E,x.keep i (Ne.symm t),fJ.aJ (R:=Zd) rfl y,?_,s,A,t⟩,c.self,?_,c.KQ.aJ _ _,?_⟩,i.mono ?_⟩⟩
 ·refine z.mono λq M H=>H.keep i (λo _ _ j=>?_) (λ_ c=>c)
  rintro rfl;obtain⟨N,j,I⟩:=j;rw [n]at j;cases j;exact I _ _ rfl
 ·intro o J;rw [F];exact c.aF o J
 ·intro K p
  rcases fG p with rfl|p
  ·exact u
  ·exact c.tQ K p
 ·rintro o _ rfl;exact s
def kr.all (b:kr) (a:Int) (c:List Int):List Int:=jo ((ay b.heard a).getD []) c
def Iv (b a:List Int):Bool:=sk b a==0||sk b a==2
def kr.ends (c:kr) (a:Int) (d b:List Int):Bool:=(ay c.asked a).isSome&&Iv (c.all a d) b
def kr.AP (b:kr) (a:Int) (d c:List Int):kr:=
 {b with heard:=aJ b.heard a (b.all a d),asked:=if b.ends a d c then bV b.asked a else b.asked}
theorem DG (c:∀d∈u,aN d) (a:Int):aN (fH u a):=by
 unfold fH;split
 ·unfold aN;omega
 ·by_cases b:a.toNat<u.length
  ·have:=c u[a.toNat] (XY b)
   simp only [List.getD,Qq b,Option.getD_some];unfold aN at*;omega
  ·have:u[a.toNat]? =none:=by simp;omega
   simp only [List.getD,this,Option.getD_none];unfold aN;omega
theorem Gw (c:∀a∈u,aN a) (d:∀a∈b3,aN a):∀a∈jo u b3,aN a:=by
 intro a e;obtain⟨b,_,rfl⟩:=Xk.1 e;have f:=DG c b;have g:=DG d b;unfold aN at*;omega
theorem Iw (a b:List Int):(jo a b).length=max a.length b.length:=tO _ _ _
theorem eG.UR (k:fJ (QL b f) g8 h7) (a:Int):
  ∃c d e,(ay g8 a).getD (.slice none 0 0)= .slice c d e/\Ints b c d ((ay h7 a).getD [])/\d*8<=aQ/\∀i,aI c=some i->f i:=by
 rcases k.ay a with⟨g,h⟩|⟨o,p,g,h,c,d,e,rfl,l,j,m,n⟩
 ·rw [g,h];exact⟨none,0,0,rfl,Ints.nil b,by simp [aQ],by simp [aI]⟩
 ·rw [g,h];exact⟨c,d,e,rfl,l.ints j m,j,n⟩
theorem Kr (g:eG b a f b7) (M:Ints b d c u) (hy:Ints b p i b3) (W:b3≠[]->pF f p):
  Calls ZQ 53 #[.pointer (some ⟨a,0,none⟩),QH e,.slice d c l,.slice p i E] b
   (Ok λt s=>∃F',t= .bool (b7.ends e u b3)/\eG s a F' (b7.AP e u b3)/\de f b F' s):=by
 obtain⟨r,w,H,lh,I,z,X,N,h5,Y,O,P⟩:=g.body;obtain⟨n,o,Q⟩:∃n o,b.heap[w]? =some (.map n o):=by obtain⟨n,o,g,_⟩:=X.at';exact⟨n,o,g⟩
 obtain⟨c9,d0,a6⟩:∃n o,b.heap[r]? =some (.map n o):=by obtain⟨n,o,g,_⟩:=z.at';exact⟨n,o,g⟩
 have b6:a≠w:=by rintro rfl;rw [I]at Q;cases Q
 have b8:a≠r:=by rintro rfl;rw [I]at a6;cases a6
 obtain⟨ha,hn,hc,hg,R,hB,hF⟩:=eG.UR h5 e;refine qd ⟨a,0,rfl,some w,ae I rfl,AY mH kI X ⟨ha,hn,hc,hg,PC.ok (BG R M) ?_⟩⟩;rintro _ w1 ⟨x,A,S,rfl,Z,v,a7⟩;have b9:A=(b7.all e u).length:=by have:=Z.length;rw [jQ,Nat.mul_one]at this;exact this.symm
 have a8:A*8<=aQ:=by
  rw [b9];unfold kr.all;rw [Iw];have:=R.len;have:=R.d_;have:=M.len;have:=M.d_;unfold aQ at*;omega
 have a9:∀c0∈b7.all e u,aN c0:=Gw R.AS M.AS;refine⟨x,A,S,rfl,a,0,rfl,some w,ae (v.get I id) rfl,jz mH kI (X.keep v id) λk b0 B c1=>?_⟩;have J:aI x≠some w:=λm=>by have:=a7 _ m;have:=aC Q;omega
 have b1:Own k 3 1 x A S (ints (b7.all e u)):=Z.keep B (dN.2 λp W=>by rintro rfl;exact J W);have c2:Ints k p i b3:=(hy.af v).IS B λc3 a0 hq=>by rintro rfl;exact W c3 a0 hq O
 refine PC.ok (OP (b1.ints a8 a9) c2) ?_;rintro _ _ ⟨rfl,rfl⟩;have T:k.heap[a]? =some (.cells #[QH b7.dx,.map (some r),.map (some w)] 150 (0,0)):=B.get (v.get I id) b6;have U:cx k r (Value.int .i64) H:=(z.keep v id).keep B P;refine⟨_,rfl,?_⟩
 let F':Nat->Prop:=λh=>f h\/(b.heap.size<=h/\h<w1.heap.size)
 have a1:de f b F' k:=⟨(v.keep (S:=f)).trans B (λ_ _ g=>g) (by rintro h _ rfl;exact O),λh q=>q.imp id (·.1)⟩
 have b2:fJ (QL k F') (aJ lh e (.slice x A S)) (aJ b7.heard e (b7.all e u)):=by
  refine fJ.aJ ⟨x,A,S,rfl,b1,a8,a9,λh q=>.inr ⟨a7 h q,Z.lt q⟩⟩ (h5.mono λt ys K=>?_);refine(K.keep v (F':=f) (λ_ _ _ _ g=>g) (λ_ g=>g)).keep B (λh _ _ j=>?_) (λ_ g=>.inl g);rintro rfl;obtain⟨c4,j,J⟩:=j;rw [v.get Q id]at j;cases j;exact J _ _ rfl
 have b4:∀h,F' h->h<k.heap.size:=λh q=>by
  rw [c1];rcases q with q|q
  ·exact Qk (g.aF h q) v.size
  ·exact q.2
 have c5:eG k a F' {b7 with heard:=aJ b7.heard e (b7.all e u)}:=
  ⟨⟨r,w,H,_,T,U,b0,N,b2,.inl Y,.inl O,P⟩,.inl g.self,b4,g.KQ,g.tQ⟩
 have a2:(ay H e).isSome=(ay b7.asked e).isSome:=by
  rcases N.ay e with⟨C,V⟩|⟨t,b5,C,V,_⟩<;>rw [C,V]<;>rfl
 have c6:∃h:Int,(ay H e).getD (QH 0)= QH h:=by
  rcases N.ay e with⟨C,V⟩|⟨t,b5,C,V,K⟩
  ·rw [C];exact⟨0,rfl⟩
  ·rw [C];exact⟨b5,K⟩
 obtain⟨k0,c7⟩:=c6;have no:b7.ends e u b3=false->Ok (λt s=>∃F',t= .bool (b7.ends e u b3)/\eG s a F' (b7.AP e u b3)/\de f b F' s) (.returned (.bool false)) k:=λm=>
  Ok.mk ⟨F',by rw [m],by unfold kr.AP;rw [m];exact c5,a1⟩
 have a3:∀y,b7.ends e u b3=true->cx y r (Value.int .i64) (bV H e)->aj (·=r) k y->y.heap.size=k.heap.size->
   Ok (λt s=>∃F',t= .bool (b7.ends e u b3)/\eG s a F' (b7.AP e u b3)/\de f b F' s) (.returned (.bool true)) y:=λy m hm F a5=>by
  obtain⟨d1,d2,c8⟩:∃n o,k.heap[r]? =some (.map n o):=by obtain⟨n,o,g,_⟩:=U.at';exact⟨n,o,g⟩
  refine Ok.mk ⟨F',by rw [m],?_,a1.keep.trans F (λ_ _ g=>g) (by rintro h _ rfl;exact Y),a1.new⟩;unfold kr.AP;rw [m];refine⟨⟨r,w,_,_,F.get T b8,hm,b0.keep F (Ne.symm P),N.bV,?_,.inl Y,.inl O,P⟩,.inl g.self,λh q=>by rw [a5];exact b4 h q,g.KQ.bV e,λa0 hq=>g.tQ a0 (gN hq)⟩;refine b2.mono λt ys K=>K.keep F (λh _ _ j=>?_) (λ_ g=>g);rintro rfl;obtain⟨c4,j,J⟩:=j;rw [c8]at j;cases j;exact J _ _ rfl
 refine⟨λs=>k=s/\b7.ends e u b3=true,⟨a,0,rfl,some r,ae T rfl,nw mA kI U ?_⟩,?_⟩
 rotate_left
 ·rintro _ _ ⟨rfl,m⟩
  exact⟨a,0,rfl,some r,ae T rfl,Mc mA kI U λy hm F a5=>a3 y m hm F a5⟩
 rw [c7];refine⟨k0,_,rfl,al.mk (λj=>?_) (λj=>al.mk (λh0=>al.mk (λz=>?_) (λz=>?_)) (λh0=>?_))⟩
 ·refine no ?_
  have:(ay b7.asked e).isSome=false:=by rw [<-a2];simpa using j
  simp [kr.ends,this]
 ·refine no ?_
  have x:(sk (b7.all e u) b3==0)=false:=by simpa [bne]using h0
  have L:(sk (b7.all e u) b3==2)=false:=by simpa [bne]using z
  simp [kr.ends,Iv,x,L]
 ·have m:b7.ends e u b3=true:=by
   have a4:(ay b7.asked e).isSome=true:=by rw [<-a2];simpa using j
   have L:(sk (b7.all e u) b3==2)=true:=by simpa [bne]using z
   simp [kr.ends,Iv,a4,L]
  exact⟨rfl,m⟩
 ·have m:b7.ends e u b3=true:=by
   have a4:(ay b7.asked e).isSome=true:=by rw [<-a2];simpa using j
   have L:(sk (b7.all e u) b3==0)=true:=by simpa [bne]using h0
   simp [kr.ends,Iv,a4,L]
  exact⟨rfl,m⟩
def kr.open (a:kr):List Int:=xq (a.asked.map (·.1))
theorem NB (k:eG b a f b7) (e:b7.asked.length*8<=aQ):
  Calls ZQ 168 #[.pointer (some ⟨a,0,none⟩)] b (Ok (Ix b 3 b7.open)):=by
 obtain⟨l,E,q,F,r,s,H,g,I,J,K,L⟩:=k.body;refine qZ ⟨a,0,rfl,some l,ae r rfl,PC.ok (φ:=λt h=>t= .func (.func 289) #[] #[.pointer (some ⟨b.heap.size,0,none⟩)]/\ai b h/\h.heap.size=b.heap.size+1/\
  h.heap[b.heap.size]? =some (.cells #[.map (some l)] 147 (0,0))) (ji (PA.mk λu c m i=>Ok.mk ⟨rfl,c,m,i⟩)) ?_⟩
 rintro _ u ⟨rfl,c,m,i⟩;have v:∀d∈q,aN d.1:=by
  intro d w;have:d.1∈b7.asked.map (·.1):=by rw [<-g.keys];exact Xk.2 ⟨d,w,rfl⟩
  obtain⟨x,j,y⟩:=Xk.1 this;rw [<-y];exact k.tQ x j
 refine⟨_,rfl,PC.ok (AQ (s.af c) v (by rw [g.length];exact e) i) ?_⟩;rintro _ M ⟨n,o,p,rfl,z,A,B⟩;refine⟨n,o,p,rfl,Ok.mk ⟨n,o,p,rfl,?_,c.af A,λC e=>by have:=B C e;omega⟩⟩;unfold kr.open;rw [<-g.keys];exact z
theorem Kt (e:eG b a f b7):
  Calls ZQ 63 #[.pointer (some ⟨a,0,none⟩)] b (Ok λu m=>u= .tuple #[]/\eG m a f ⟨b7.dx,[],[]⟩/\aj f b m):=by
 obtain⟨h,i,E,F,g,n,o,H,I,p,q,k⟩:=e.body;obtain⟨c,d,r⟩:∃c d,b.heap[i]? =some (.map c d):=by obtain⟨c,d,e,_⟩:=o.at';exact⟨c,d,e⟩
 obtain⟨J,K,s⟩:∃c d,b.heap[h]? =some (.map c d):=by obtain⟨c,d,e,_⟩:=n.at';exact⟨c,d,e⟩
 have v:a≠i:=by rintro rfl;rw [g]at r;cases r
 have t:a≠h:=by rintro rfl;rw [g]at s;cases s
 refine qe ⟨a,0,rfl,some h,ae g rfl,Kf mA n λL w j x=>⟨a,0,rfl,some i,ae (j.get g t) rfl,Kf mH (o.keep j (Ne.symm k)) λM y l z=>Ok.mk ⟨rfl,
  ⟨⟨h,i,[],[],l.get (j.get g t) v,w.keep l k,y,trivial,trivial,p,q,k⟩,e.self,λA B=>by rw [z,x];exact e.aF A B,by simp [Tidy],sM⟩,?_⟩⟩⟩
 exact j.trans l (by rintro C _ rfl;exact p) (by rintro C _ rfl;exact q)
def gA (d b:Int) (c:List Int×List (Int×Int)) (a:Int):List Int×List (Int×Int):=
 if IntKind.wrap .i64 (b-(ay c.2 a).getD 0)>=d then(c.1++[a],aJ c.2 a b)else c
def kr.jv (a:kr) (b:Int) (c:Nat):List Int×List (Int×Int):=(a.open.take c).foldl (gA a.dx b) ([],a.asked)
def kr.due (b:kr) (a:Int):List Int:=(b.jv a b.open.length).1
def kr.SV (a:kr) (b:Int):kr:={a with asked:=(a.jv b a.open.length).2}
theorem kr.NC (c:kr) (b:Int) (d:c.open[a]? =some e):c.jv b (a+1)=gA c.dx b (c.jv b a) e:=by
 unfold kr.jv;rw [Qw,d];simp
theorem QB (j:eG b a f b7) (d:b7.asked.length*8<=aQ):
  Calls ZQ 113 #[.pointer (some ⟨a,0,none⟩),QH e] b
   (Ok λL M=>∃N a4 a5,L= .slice N a4 a5/\Own M 3 1 N a4 a5 (ints (b7.due e))/\eG M a f (b7.SV e)/\aj f b M/\∀c,aI N=some c->b.heap.size<=c):=by
 refine tf (PC.ok (NB j d) ?_);rintro _ O ⟨B,m,lc,rfl,n,t,hn⟩;have b2:∀h∈b7.open,aN h:=by
  intro h C;have:h∈b7.asked.map (·.1):=(List.mergeSort_perm _ _).mem_iff.1 C;obtain⟨u,v,rfl⟩:=Xk.1 this;exact j.tQ u v
 have P:m=b7.open.length:=by have:=n.length;rw [jQ,Nat.mul_one]at this;exact this.symm
 have b3:b7.open.length=b7.asked.length:=by simp [kr.open,xq]
 have b4:m*8<=aQ:=by rw [P,b3];exact d
 have hL:Ints O B m b7.open:=n.ints b4 b2;have b5:pF f B:=dN.2 λc d Q=>by have:=hn c d;have:=j.aF c Q;omega
 unfold aQ at d;have d2:pF f none:=pF.none;refine⟨B,m,lc,rfl,λa6 w x R i o=>∃g:Nat,i=g/\g<=m/\a6=m-g/\Own o 3 1 w x R (ints (b7.jv e g).1)/\x<=g/\eG o a f {b7 with asked:=(b7.jv e g).2}/\aj f b o/\Ints o B m b7.open/\O.heap.size<=o.heap.size/\
   (∀c,aI w=some c->O.heap.size<=c),⟨_,0,rfl,Qj _,rfl,Own.nil _ _ _,Qj _,j.af t,t.keep,hL,Q4 _,by simp [aI]⟩,?_⟩
 rintro a6 w x R i _ o ⟨g,rfl,d3,rfl,S,d4,E,T,U,b6,q⟩;refine al.mk (λy=>?_) (λy=>?_)
 ·have y:=XV y
  obtain⟨c,V,h,rfl,d5,C,b8,hc⟩:=U.at (i:=(g:Int)) oM oM;rw [Qx]at C;have a7:=b7.NC e C;obtain⟨ra,rh,Yt,lh,t1,t2,t3,t4,t5,t6,t7,t8⟩:=E.body;refine⟨c,V,rfl,oM,oM,h,hc,a,0,rfl,some ra,ae t1 rfl,?_⟩;have b9:(ay Yt h).getD (QH 0)= QH ((ay (b7.jv e g).2 h).getD 0):=by
   rcases t4.ay h with⟨W,X⟩|⟨L,d6,W,X,Y⟩
   ·rw [W,X];rfl
   ·rw [W,X];exact Y
  refine⟨(ay (b7.jv e g).2 h).getD 0,λc0=>?_,a,0,rfl,b7.dx,ae t1 rfl,λw3 hd=>?_⟩
  ·have:=eY mA kI (t2.keep (aj.drewN (S:=λ_=>False) o c0) id) h false
   simpa [b9]using this
  have k:ai o w3:=hd.keep;refine al.mk (λp=>?_) (λp=>?_)
  ·have p:=XV p
   refine PA.mk λw4 r s4 g4=>?_;refine NQ Vy ((S.af k).af r) g4 (by unfold aQ at*;omega) λa' c' w5 a8 F K=>?_;refine⟨a',x+1,c',rfl,a,0,rfl,?_⟩;have c1:∀c,f c->¬(some c=aI w):=λc Q Z=>by have:=q c Z.symm;have:=j.aF c Q;have:=t.size;omega
   have z:eG w5 a f {b7 with asked:=(b7.jv e g).2}:=((E.af k).af r).keep F c1;obtain⟨l,a0,a9,a1,a2,b0,c2,c3,c4,a3,c5,b1⟩:=z.body;refine⟨some l,ae a2 rfl,jz mA kI b0 λw6 c6 s c7=>?_⟩;obtain⟨H,I,J⟩:∃H I,w5.heap[l]? =some (.map H I):=by obtain⟨H,I,j,_⟩:=b0.at';exact⟨H,I,j⟩
   have c8:a≠l:=by rintro rfl;rw [a2]at J;cases J
   have c9:eG w6 a f {b7 with asked:=aJ (b7.jv e g).2 h e}:=by
    refine⟨⟨l,a0,_,a1,s.get a2 c8,c6,c2.keep s (Ne.symm b1),fJ.aJ (R:=Zd) rfl c3,?_,a3,c5,b1⟩,z.self,λc d=>by rw [c7];exact z.aF c d,z.KQ.aJ _ _,?_⟩
    ·refine c4.mono λL ys Y=>Y.keep s (λu _ _ n=>?_) (λ_ j=>j)
     rintro rfl;obtain⟨d7,n,d0⟩:=n;rw [J]at n;cases n;exact d0 _ _ rfl
    ·intro u v
     rcases fG v with rfl|v
     ·exact b8
     ·exact z.tQ u v
   have A:b7.jv e (g+1)=((b7.jv e g).1++[h],aJ (b7.jv e g).2 h e):=by rw [a7];unfold gA;rw [if_pos p]
   have d1:∀c,aI a'=some c->c≠l:=λc d=>by
    rintro rfl;exact a8.VC J d
   refine⟨_,?_,g+1,?_,oM,rfl,?_,oM,by rw [A];exact c9,?_,?_,?_,?_⟩
   ·omega
   ·rw [wrap_i64 (by unfold aN;omega)];simp
   ·rw [A];exact a8.keep s (dN.2 d1)
   ·refine(((T.af k).af r).new F ?_).trans s (λ_ _ j=>j) (by rintro u _ rfl;exact a3)
    intro c d;right;have:=q c d.symm;have:=t.size;omega
   ·refine(((U.af k).af r).keep F (dN.2 λc d Z=>?_)).keep s (dN.2 λc d=>?_)
    ·have:=q c Z.symm;have:=n.lt d;omega
    ·rintro rfl;exact dN.1 b5 c d a3
   ·have:=k.size;have:=r.size;have:=F.size;omega
   ·intro c d
    rcases K with K|K
    ·exact q c (K▸d)
    ·rw [K]at d;cases d;have:=k.size;have:=r.size;omega
  ·have p:=Xy p
   have A:b7.jv e (g+1)=b7.jv e g:=by rw [a7];unfold gA;rw [if_neg p]
   refine⟨_,?_,g+1,?_,oM,rfl,by rw [A];exact S.af k,oM,by rw [A];exact E.af k,T.af k,U.af k,Xx b6 k.size,q⟩
   ·omega
   ·rw [wrap_i64 (by unfold aN;omega)];simp
 ·have y:=Xy y
  obtain rfl:g=m:=oM
  refine Ok.mk ⟨w,x,R,rfl,?_,?_,T,λc d=>Xx t.size (q c d)⟩
  ·unfold kr.due;rw [<-P];exact S
  ·unfold kr.SV;rw [<-P];exact E
structure cz where
 bl:Int
 nY:Int
 aZ:Int
 chunk:Int
 buffer:Int
 dx:Int
 every:Int
 start:Int
 decl:aR
structure bw where
 S:aq
 D:ak
 log:Option cY
 waits:List ah
 fP:kr
def gG (a:cz) (b:Int):Bool:=
 within a.bl 1 64&&within b 0 (a.bl-1)&&within a.nY 64 262144&&decide (a.aZ>=1)&&decide (a.every>=1)&&within a.chunk 1 32&&within a.buffer 1 256&&within a.dx 1 1048576&&decide (a.start>=0)
section
variable (c:cz) (self:Int)
def eR (b:bw):Int×bw:=
 let a:=aM b.D c.aZ
 if a.no≠0 then(a.no,{b with D:=a.D,log:=none,S:=⟨c.bl.toNat,[]⟩})
 else(0,{b with D:=a.D,log:=some a.V,S:=(⟨c.bl.toNat,[]⟩:aq).eI a.out})
def qA:Int×bw:=eR c ⟨⟨c.bl.toNat,[]⟩,eS c.nY.toNat,none,[],⟨c.dx,[],[]⟩⟩
def dZ (a:aq) (b:List ah):aq:=(⟨c.bl.toNat,[]⟩:aq).eI (a.l++b)
def bU (b:bw) (e:List ah):Int×bw:=match b.log with
 |none=>(15,b)
 |some f=>
  let a:=az f b.D e
  if a.1≠0 then(a.1,{b with log:=some a.2.1,D:=a.2.2})else
  let d:=a.2.2.sync a.2.1.last
  if d.1≠0 then(d.1,{b with log:=some a.2.1,D:=d.2})else
  (0,{b with log:=some a.2.1,D:=d.2,S:=dZ c b.S e})
def cm (a:bw) (e:jS):Int×(Int×Int)×bw:=match a.log with
 |none=>(15,(0,0),a)
 |some _=>
  let b:=kV c.decl a.S (cG c.decl a.S.l) self c.start e
  if b.2.2≠0 then(b.2.2,(0,0),a)else
  if b.2.1 then(let d:=bU c a [b.1];if d.1≠0 then(d.1,(0,0),d.2)else(0,aO b.1,d.2))
  else(0,aO b.1,a)
def gP (b:bw) (a d:Int):List dz×bw:=
 if a<0\/a>=c.bl\/a=self then([],b)else([lj b.S self a],{b with fP:={b.fP with asked:=aJ b.fP.asked a d}})
def KC (c:bw) (a:Int):List dz×bw:=((c.fP.due a).map λb=>lj c.S self b,{c with fP:=c.fP.SV a})
def dI (a:Nat):List ah->aq->List ah->List ah->aq×List ah×List ah
 |[],c,b,d=>(c,b,d)
 |e::f,c,b,d=>
  if(c.add e).1=0 then dI a f (c.add e).2 (b++[e]) d
  else if(c.add e).1=16 then dI a f c b d
  else dI a f c b (dQ a d e).2
def dP:List ah->aq->List ah->aq×List ah
 |[],b,a=>(b,a)
 |e::c,b,a=>if(b.add e).1=0 then dP c (b.add e).2 (a++[e])else dP c (b.add e).2 a
def kW:Nat->aq->List ah->List ah->List ah×List ah
 |0,c,a,d=>(a,d)
 |k+1,c,a,d=>
  let b:=bI c d
  if b.1=[]then(a,b.2)else
  let e:=dP b.1 c a
  kW k e.1 e.2 b.2
def fm (b:bw) (d:List ah):List ah×List ah:=
 let a:=dI c.buffer.toNat d (dZ c b.S []) [] b.waits
 kW (a.2.2.length+1) a.1 a.2.1 a.2.2
def ia (a:bw) (d:dz):List dz×Int×bw:=
 let e:=fm c a d.events
 let a:={a with waits:=e.2}
 if e.1=[]then([yN a.S self d.ck],0,a)else
 let b:=bU c a e.1
 if b.1≠0 then([],b.1,{b.2 with waits:=[]})else([yN b.2.S self d.ck],0,b.2)
def bA (a:bw) (b:dz):List dz×Int×bw:=match a.log with
 |none=>([],15,a)
 |some _=>
  let no:=dJ b c.bl.toNat c.chunk
  if no≠0 then([],no,a)else
  if b.qF≠self then([],1,a)else
  if b.kind=3 then ia c self a b else
  let a:={a with fP:=a.fP.AP b.ck b.vec a.S.vec}
  if b.kind≠4 then(mE a.S self b c.chunk,0,a)else
  let d:=a.S.missing b.vec c.chunk
  if d=[]then([],0,a)else([⟨3,self,b.ck,[],d⟩],0,a)
def iS (b:bw) (a:Int):Int×bw:=eR c {b with D:=dH (b.D.eA a),waits:=[],fP:=⟨b.fP.dx,[],[]⟩}
def eC (a:bw):Int×bw:=match a.log with
 |none=>(15,a)
 |some d=>
  let b:=aU d a.D a.S.l c.aZ
  if b.no≠0 then(b.no,{a with D:=b.D})else(0,{a with D:=b.D,log:=some b.V})
end
structure IC where
 m:dz
 va:Option Addr
 vn:Nat
 vc:Nat
 ea:Option Addr
 en:Nat
 ec:Nat
def UG:kM IC:=flat 5 (λa=>cD a.m a.va a.vn a.vc a.ea a.en a.ec) (λ_=>True) (λ_=>rfl) (λc d b=>by
 simp only [cD,Q2,List.not_mem_nil,or_false]at b;rcases b with rfl|rfl|rfl|rfl|rfl<;>rfl)
def IC.In (b:World) (D:Nat->Prop) (a:IC):Prop:=Row aP 8 b D a.va a.vn a.m.vec/\Row fZ 96 b D a.ea a.en a.m.events
theorem OJ:jP ZQ 63 67 UG.k 72:=⟨kR,kR,dC⟩
def bB (d:World) (h:List dz) (i:Value) (c:World):Prop:=
 ∃(b:Option Addr) (f g:Nat) (e:List IC) (D:Nat->Prop),i= .slice b f g/\aV UG 67 (λa=>aI b=some a) c b f g e/\e.map (·.m)=h/\(∀a∈e,a.In c D)/\(∀a,D a->d.heap.size<=a/\a<c.heap.size/\aI b≠some a)/\(∀a,aI b=some a->d.heap.size<=a)/\ai d c
section
variable {w w':World} {p:Nat} {F D:Nat->Prop} {S:aq} {a:Option Addr} {n c:Nat}
theorem IC.In.keep {a:IC} (b:a.In w D) (c:aj f w w') (d:∀a,D a->¬f a):a.In w' D:=⟨b.1.keep c d,b.2.keep c d⟩
theorem IC.In.mono {a:IC} (b:a.In w D) (c:∀a,D a->f a):a.In w f:=⟨b.1.mono c,b.2.mono c⟩
theorem eE {a:kM j} {bytes:Nat} (w:World) (D:Nat->Prop):Row a bytes w D none 0 []:=⟨rfl,sM,λc d b=>by simp at b⟩
theorem bB.nil (w:World):bB w [] (.slice none 0 0) w:=⟨none,0,0,[],λ_=>False,rfl,(aV.nil w).mono (λb a=>a.elim) (λb a=>(by cases a)),rfl,sM,λb a=>a.elim,λb a=>(by cases a),aj.refl _⟩
theorem bB.af (g:bB b c8 v w) (f:ai w w'):bB b c8 v w':=by
 obtain⟨a,n,c,i,D,j,k,l,m,h,o,p⟩:=g;exact⟨a,n,c,i,D,j,k.af f,l,λd e=>(m d e).keep f λ_ _ g=>g,λd e=>⟨(h d e).1,by have:=f.size;have:=(h d e).2.1;omega,(h d e).2.2⟩,o,p.then f⟩
theorem bB.push (x:bB b c8 (.slice a n c) w) (N:jP h g 67 UG.k 72) {m:dz} {j k:Option Addr} {l p r s A:Nat} {E:Nat->Prop} (O:(⟨m,j,l,p,k,r,s⟩:IC).In w E) (B:∀d,E d->b.heap.size<=d/\d<w.heap.size/\aI a≠some d)
  (P:w.heap[A]? =some (.cells (cD m j l p k r s).toArray 67 H)) (V:c8.length<=1000) (y:∀f i w',bB b (c8++[m]) (.slice f (n+1) i) w'->aj (λd=>aI a=some d) w w'->o (.slice f (n+1) i) w'):
  aH h (Builtin.append_ #[g,g] q #[.slice a n c,.slice (some ⟨A,0,none⟩) 1 1]) w o t:=by
 obtain⟨W,X,Y,z,D,Q,R,C,S,F,I,J⟩:=x
 cases Q
 have Z:z.length=c8.length:=by rw [<-C,Q8]
 refine fh (c:=UG) (x:=⟨m,j,l,p,k,r,s⟩) (D:=λ_=>False) R N P ⟨rfl,trivial⟩ (λd e=>e.elim) (by unfold aQ;omega) (by unfold maxLen;omega) λf i w' F' u v T=>?_;have K:∀d,aI f=some d->aI a=some d\/w.heap.size<=d:=λd e=>(T d (u.self d e)).imp id λx=>x.resolve_left id;have a0:=v.size;have z7:=J.size;refine y f i w' ⟨f,n+1,i,z++[⟨m,j,l,p,k,r,s⟩],λd=>D d\/E d,rfl,(show aV UG 67 (λd=>aI f=some d) w' f (n+1) i (z++[⟨m,j,l,p,k,r,s⟩])from u.alone),by rw [Q3,C];rfl,λd e=>?_,λd e=>?_,λd e=>?_,J.new v λd e=>.inr (I d e)⟩ v
 ·rcases Q6.1 e with e|e
  ·exact((S d e).keep v λd e=>(F d e).2.2).mono λd e=>.inl e
  ·simp at e;subst e
   exact(O.keep v λd e=>(B d e).2.2).mono λd e=>.inr e
 ·have L:b.heap.size<=d/\d<w.heap.size/\aI a≠some d:=e.elim (F d) (B d)
  exact⟨L.1,oM,λU=>(K d U).elim L.2.2 oM⟩
 ·rcases K d e with M|M
  ·exact I d M
  ·omega
theorem OR (A:bB b c8 (.slice a n c) w) (P:c8.length<=1000):
  Calls ZQ 110 #[QH e,QH m,.slice a n c] w (Ok λB w'=>bB b (c8.map λp=>{p with ck:=e,qF:=m}) B w'):=by
 obtain⟨Q,R,S,f,D,C,t,y,E,q,z,F⟩:=A
 cases C
 have T:f.length=c8.length:=by rw [<-y,Q8]
 have U:=t.len dC;obtain⟨h,k⟩:∃h:IC->IC,h=λg=>{g with m:={g.m with ck:=e,qF:=m}}:=⟨_,rfl⟩
 refine LO ⟨λp i w'=>∃d:Nat,i=d/\d<=n/\p=n-d/\aV UG 67 (λg=>aI a=some g) w' a n c ((f.take d).map h++f.drop d)/\aj (λg=>aI a=some g) w w',⟨_,0,rfl,Qj _,rfl,by simpa using t,aj.refl _⟩,?_⟩;rintro p _ _ V ⟨d,rfl,W,rfl,u,r⟩;refine al.dec (λX=>?_) (λY=>?_)
 ·have s:f[d]? =some f[d]:=Qq oM
  have l:∃o,a=some ⟨o,0,none⟩:=by
   obtain⟨cs,D,H,-⟩:=t.body;rcases H.cases with⟨_,Z,_,_⟩|⟨o,I,rfl,_⟩
   ·omega
   ·exact⟨o,rfl⟩
  obtain⟨o,l⟩:=l;have v:((f.take d).map h++f.drop d)[d]? =some f[d]:=by
   rw [X8 (by simp;omega)];simp [Qy,X2 (show d<=f.length by omega)]
  generalize f[d]=i at s v;have J:d<((f.take d).map h++f.drop d).length:=(Qv.1 v).1;refine⟨o,0,l,oM,oM,?_⟩;rw [Qx];refine aV.set (x':={i with m:={i.m with ck:=e}}) (j:=1) u v dC rfl l λa3 K L a4=>⟨o,0,l,oM,oM,?_⟩
  refine aV.set (x:={i with m:={i.m with ck:=e}}) (x':=h i) (j:=2) K (by rw [List.getElem?_set_self J]) dC (by rw [k];rfl) l λa5 x M a6=>⟨_,?_,d+1,an oM,oM,rfl,?_,(r.then L).then M⟩
  ·omega
  ·rw [List.set_set]at x
   have N:((f.take d).map h++f.drop d).set d (h i)=(f.take (d+1)).map h++f.drop (d+1):=by
    have O:((f.take d).map h).length=d:=by simp;omega
    rw [Qw,s,Q3,XQ,List.set_append,if_neg oM,O,Nat.sub_self,X4 (show d<f.length by omega)];rfl
   rw [N]at x;exact x
 ·obtain rfl:d=n:=oM
  rw [Qz oM,List.drop_eq_nil_of_le oM,List.append_nil]at u;refine Ok.mk ⟨a,d,c,f.map h,D,rfl,u,?_,λg j=>?_,λg j=>⟨(q g j).1,by have:=r.size;have:=(q g j).2.1;omega,(q g j).2.2⟩,z,F.new r λg j=>.inr (z g j)⟩
  ·rw [<-y,List.map_map,List.map_map,k];rfl
  ·obtain⟨i,s,rfl⟩:=Xk.1 j
   have:=(E i s).keep r λg j=>(q g j).2.2;rw [k];exact this
end
end Go.Proofs.YtfchlbaidamodaaGreatDoor

import Derived.Test.YtfchlbaidamodaaGreatDoorKc17
set_option linter.all false
set_option maxRecDepth 20000
namespace Go.Proofs.YtfchlbaidamodaaGreatDoor
open Go.ax
abbrev oA:=List (Int×List ah)
def dt(a:oA):List Int:=a.map (·.1)
def cI(a:oA)(b:List ah):List ah:=(a.map (·.2)).flatten++b
structure cE (D:ak) (A:oA) (no:Int) (l:List ah) (k:Nat):Prop where
 tidy:Tidy D.files
 full:∀x∈A,ay D.files (au x.1)=some (dB (ar x.2))
 last:∃s,ay D.files (au no)=some ⟨ar l,s,true⟩/\(ar (l.take k)).length<=s/\s<=(ar l).length
 kl:k<=l.length
 WV:ay D.files cg=some (dB (bW (dt A++[no])))
 AS:∀n∈dt A++[no],1<=n/\n<1000000000000
 Ac:(dt A++[no]).Pairwise (·<·)
 evs:∀e∈cI A l,e.Ok/\e.aK.length<=64
 many:A.length+1<=64
structure AV (V:cY) (A:oA) (no:Int) (l:List ah):Prop where
 aX:V.aX=dt A++[no]
 bytes:V.bytes=((ar l).length:Nat)
 next:no<V.next/\V.next<=1000000000000
def fk{n:Int}(e:dv (au n)=true\/0<=n/\n<1000000000000):au n≠cg/\au n≠aS:=by
 have c:cg.data.toList.take 4≠dV:=by decide+kernel
 have d:aS.data.toList.take 4≠dV:=by decide+kernel
 have a:(au n).data.toList.take 4=dV\/(au n).data.toList=[]:=by
  unfold au;rw[og];unfold aB;split
  ·exact .inr rfl
  ·exact .inl (by simp[dV])
 refine⟨λb=>?_,λb=>?_⟩
 ·rw[b]at a
  rcases a with a|a
  ·exact c a
  ·revert a;decide+kernel
 ·rw[b]at a
  rcases a with a|a
  ·exact d a
  ·revert a;decide+kernel
def gi{a b:Int}(c:0<=a/\a<1000000000000)(d:au b=au a):b=a:=Ka c.1 c.2 (Ox d)
variable{e:Int}{v:List UInt8}{B:List ah}{a c i:Nat}{a4 f:Nat->Prop}{d:Option Addr}{b k:World}{b0:cY}
def uy(b:0<=e):dv (au e)=true↔e<1000000000000:=by
 constructor
 ·intro a
  by_cases c:e<1000000000000
  ·exact c
  ·have:au e=cR []:=by unfold au aB;rw[if_pos (.inr oM)]
   have d:dv (cR [])=false:=by decide+kernel
   rw[this,d]at a;cases a
 ·intro a;exact Kb b a
def jN(a:List ah)(b:Nat):(ar (a.take b)).length<=(ar a).length:=by
 have c:=List.take_append_drop b a
 conv=>rhs;rw[<-c,eh,QX]
 omega
def Dk(a:oA)(no:Int)(b c:List ah):cI (a++[(no,b)]) c=cI a b++c:=by simp[cI]
section
variable {D E:ak} {A:oA} {no:Int} {l x:List ah} {k j:Nat} {V:cY}
def cE.same(a:cE D A no l k)(e:Tidy E.files)(b:∀c∈dt A++[no],ay E.files (au c)=ay D.files (au c))(f:ay E.files cg=ay D.files cg):cE E A no l k:=
 ⟨e,λx d=>(b x.1 (List.mem_append_left _ (Xk.2 ⟨x,d,rfl⟩))).trans (a.full x d),by
  obtain⟨g,h,i⟩:=a.last;exact⟨g,(b no (List.mem_append_right _ (List.mem_singleton.2 rfl))).trans h,i⟩,a.kl,f.trans a.WV,a.AS,a.Ac,a.evs,a.many⟩
def cE.files(b:cE D A no l k)(a:E.files=D.files):cE E A no l k:=b.same (by rw[a];exact b.tidy) (λ_ _=>by rw[a]) (by rw[a])
def cE.mL(a:cE D A no l k):1<=no/\no<1000000000000:=a.AS no (List.mem_append_right _ (List.mem_singleton.2 rfl))
def cE.Vu(b:cE D A no l k):∀a∈A,au a.1≠au no:=λa d e=>by
 have f:=b.mL;have:=gi ⟨oM,f.2⟩ e;have c:=b.Ac;rw[List.pairwise_append]at c;have:=c.2.2 a.1 (Xk.2 ⟨a,d,rfl⟩) no (List.mem_singleton.2 rfl);omega
def cE.put(a:cE D A no l k){s d:Nat}(b:E.files=aJ D.files (au no) ⟨ar B,s,true⟩)(g:d<=B.length)(h:(ar (B.take d)).length<=s)(i:s<=(ar B).length)(j:∀c∈B,c.Ok/\c.aK.length<=64):cE E A no B d:=
 ⟨by rw[b];exact a.tidy.aJ _ _,λe f=>by rw[b,bu,if_neg (by simpa using a.Vu e f)];exact a.full e f,⟨s,by rw[b,bu];simp,h,i⟩,g,by
  have:=(fk (n:=no) (.inr (by have:=a.mL;omega))).1;rw[b,bu,if_neg (by simpa using this.symm)];exact a.WV,a.AS,a.Ac,λc b=>by
  rcases Q6.1 b with F|F
  ·exact a.evs c (List.mem_append_left _ F)
  ·exact j c F,a.many⟩
def cE.Yr(b:cE D A no l k):∀a∈l,a.Ok/\a.aK.length<=64:=λa c=>b.evs a (List.mem_append_right _ c)
def cE.rQ(a:AV V A no l):V.last=au no:=by unfold cY.last;rw[a.aX];simp[au]
def cE.mono(a:cE D A no l k)(b:j<=k):cE D A no l j:=by
 obtain⟨c,d,e,f⟩:=a.last;exact⟨a.tidy,a.full,⟨c,d,Xx (Dp b) e,f⟩,Xx b a.kl,a.WV,a.AS,a.Ac,a.evs,a.many⟩
def sK(a:cE D A no l k):((D.sync (au no)).1=0/\cE (D.sync (au no)).2 A no l l.length)\/((D.sync (au no)).1≠0/\cE (D.sync (au no)).2 A no l k):=by
 rcases iL D (au no)with⟨b,c⟩|⟨b,f,d,c⟩
 ·exact .inr ⟨b,a.files c⟩
 ·obtain⟨g,e,h,i⟩:=a.last
  rw[e]at d;cases d
  exact .inl ⟨b,a.put c (Q4 _) (by rw[List.take_length];exact Q4 _) (Q4 _) a.Yr⟩
def vl(o:Tidy D.files)(p:0<=V.next):((bF V D).1≠0/\(bF V D).2.1=V/\Tidy (bF V D).2.2.files/\∀x,x≠au V.next->x≠aS->ay (bF V D).2.2.files x=ay D.files x)\/
  ((bF V D).1=0/\V.next<1000000000000/\V.aX.length+1<=64/\ay D.files (au V.next)=none/\(bF V D).2.1=⟨V.size,V.aX++[V.next],0,V.next+1⟩/\Tidy (bF V D).2.2.files/\ay (bF V D).2.2.files (au V.next)=some (dB [])/\
   ay (bF V D).2.2.files cg=some (dB (bW (V.aX++[V.next])))/\∀x,x≠au V.next->x≠aS->x≠cg->ay (bF V D).2.2.files x=ay D.files x):=by
 unfold bF;dsimp only;rw[show cR (aB V.next)=au V.next from rfl];rcases lz D (au V.next)with⟨g,h⟩|⟨g,h,y,q⟩
 ·rw[if_pos g]
  exact .inl ⟨g,rfl,by show Tidy (D.create _).2.files;rw[h];exact o,λx _ _=>by show ay (D.create (au V.next)).2.files x=_;rw[h]⟩
 have r:=(uy p).1 h;obtain⟨z,nt⟩:=fk (n:=V.next) (.inr ⟨p,r⟩);rw[if_neg (show¬(D.create (au V.next)).1≠0 by simpa using g)];have i:uz (au V.next) D (D.create (au V.next)).2:=(uz.refl o).put q;have s:ay (D.create (au V.next)).2.files (au V.next)=some ⟨[],0,false⟩:=by rw[q,bu];simp
 generalize(D.create (au V.next)).2=b at i s;unfold m_;dsimp only;rw[show cR (aB V.next)=au V.next from rfl];have c:∀{F:ak},Tidy F.files->(∀x,x≠au V.next->x≠aS->ay F.files x=ay D.files x)->Tidy (F.delete (au V.next)).2.files/\∀x,x≠au V.next->x≠aS->ay (F.delete (au V.next)).2.files x=ay D.files x:=by
  intro F n t;rcases jA F (au V.next)with e|e
  ·rw[e];exact⟨n,t⟩
  ·rw[e];exact⟨n.bV _,λx a d=>by rw[gh n,if_neg (by simpa using a)];exact t x a d⟩
 rcases iL b (au V.next)with⟨j,f⟩|⟨j,H,u,f⟩
 ·rw[if_pos j]
  have:=c (F:=(b.sync (au V.next)).2) (by rw[f];exact i.1) λx a _=>by rw[f];exact i.2 x a
  exact .inl ⟨j,rfl,this⟩
 rw[s]at u;cases u
 have k:uz (au V.next) D (b.sync (au V.next)).2:=i.put f;have v:ay (b.sync (au V.next)).2.files (au V.next)=some (dB []):=by rw[f,bu];simp
 rw[if_neg (show¬(b.sync (au V.next)).1≠0 by simpa using j)];generalize(b.sync (au V.next)).2=A at k v;rcases Lx k.1 (V.aX++[V.next])with⟨l,m⟩|⟨l,m,B,C,w⟩
 ·rw[if_pos l]
  have:=c (F:=(bJ A (V.aX++[V.next])).2) m.1 λx a d=>(m.2 x d).trans (k.2 x a);exact .inl ⟨l,rfl,this⟩
 ·rw[if_neg (by simpa using l)]
  refine .inr ⟨rfl,r,by simpa using m,y,?_,B,(w _ nt z).trans v,C,λx a d E=>(w x d E).trans (k.2 x a)⟩;rw[wrap_i64 (by unfold aN;omega)]
def cE.bF(d:cE D A no l l.length)(k:AV V A no l):((bF V D).1≠0/\(bF V D).2.1=V/\cE (bF V D).2.2 A no l l.length)\/
  ((bF V D).1=0/\(bF V D).2.1.size=V.size/\cE (bF V D).2.2 (A++[(no,l)]) V.next [] 0/\AV (bF V D).2.1 (A++[(no,l)]) V.next []/\(bF V D).2.1.next=V.next+1):=by
 have I:=d.mL;have J:=k.next;have r:∀a∈dt A++[no],a<V.next:=λa c=>by
  rcases Q6.1 c with b|b
  ·have m:=d.Ac
   rw[List.pairwise_append]at m;have:=m.2.2 a b no (List.mem_singleton.2 rfl);omega
  ·have:=List.mem_singleton.1 b;omega
 have n:∀a∈dt A++[no],au a≠au V.next:=λa c f=>by
  have b:=d.AS a c;have m:=r a c;have:=gi (a:=a) ⟨oM,b.2⟩ f.symm;omega
 have g:∀a∈dt A++[no],au a≠cg/\au a≠aS:=λa c=>fk (.inr (by have:=d.AS a c;omega));have v:cg≠au V.next:=λf=>by
  by_cases K:V.next<1000000000000
  ·exact(fk (n:=V.next) (.inr oM)).1 f.symm
  ·have w:au V.next=cR []:=by unfold au aB;rw[if_pos (.inr oM)]
   rw[w]at f
   revert f;decide+kernel
 rcases vl (V:=V) d.tidy oM with⟨o,s,i,p⟩|⟨o,s,i,p,h,x,y,t,u⟩
 ·exact .inl ⟨o,s,d.same i (λa c=>p _ (n a c) (g a c).2) (p _ v λf=>AW f.symm)⟩
 ·rw[k.aX]at i t
  have z:A.length+1+1<=64:=by simpa[dt]using i
  have j:dt (A++[(no,l)])=dt A++[no]:=by simp[dt]
  refine .inr ⟨o,by rw[h],⟨x,λq B=>?_,⟨0,y,by simp[ar],Qj _⟩,Q4 _,by rw[j];exact t,?_,?_,by rw[Dk,List.append_nil];exact d.evs,by simpa using z⟩,⟨by rw[h,j,k.aX],by rw[h];simp[ar],by rw[h];simp only;omega⟩,by rw[h]⟩
  ·rcases Q6.1 B with b|b
   ·have e:q.1∈dt A++[no]:=List.mem_append_left _ (Xk.2 ⟨q,b,rfl⟩)
    rw[u _ (n _ e) (g _ e).2 (g _ e).1];exact d.full q b
   ·rw[List.mem_singleton]at b
    subst b;have e:no∈dt A++[no]:=List.mem_append_right _ (List.mem_singleton.2 rfl);obtain⟨C,E,F,L⟩:=d.last;rw[List.take_length]at F;have H:C=(ar l).length:=oM
    show ay _ (au no)=_;rw[u _ (n _ e) (g _ e).2 (g _ e).1,E,H];rfl
  ·rw[j]
   intro a c;rcases Q6.1 c with b|b
   ·exact d.AS a b
   ·have:=List.mem_singleton.1 b;omega
  ·rw[j,List.pairwise_append]
   exact⟨d.Ac,List.pairwise_singleton _ _,λa c M e=>by have:=List.mem_singleton.1 e;have:=r a c;omega⟩
def cE.begin(e:cE D A no l k)(c:AV V A no l):((aG V D).1≠0/\(aG V D).2.1=V/\cE (aG V D).2.2 A no l k)\/
  ((aG V D).1=0/\(aG V D).2.1.size=V.size/\cE (aG V D).2.2 (A++[(no,l)]) V.next [] 0/\AV (aG V D).2.1 (A++[(no,l)]) V.next []/\(aG V D).2.1.next=V.next+1):=by
 have f:¬V.aX=[]:=by rw[c.aX];simp
 have g:aG V D=if(D.sync (au no)).1≠0 then((D.sync (au no)).1,V,(D.sync (au no)).2)else Go.Proofs.YtfchlbaidamodaaGreatDoor.bF V (D.sync (au no)).2:=by
  unfold aG;rw[if_neg f,cE.rQ c]
 rw[g];rcases sK e with⟨a,d⟩|⟨a,d⟩
 ·rw[if_neg (by simpa using a)]
  rcases d.bF c with⟨h,i,j⟩|b
  ·exact .inl ⟨h,i,j.mono e.kl⟩
  ·exact .inr b
 ·rw[if_pos a];exact .inl ⟨a,rfl,d⟩
end
def bR(a:List ah):List UInt8×Int:=if a.any eD then([],3)else(ar a,0)
def LP(V:Laid b)(F:Row fZ 96 b f d a B)(W:∀e,f e->e<b.heap.size)(hl:B.length<=20000000):
  Calls ZQ 115 #[.slice d a c] b (Ok λX r=>∃H I J n,X= .tuple #[.slice H I J,QH (bR B).2]/\aV gq 5 n r H I J (bR B).1/\ai b r/\∀e,n e->b.heap.size<=e):=by
 have hn:=F.len;refine yb ⟨λK L N O P r=>∃(g:Nat) (n:Nat->Prop),P=g/\g<=a/\K=a-g/\(∀h∈B.take g,h.Ok/\h.aK.length<=64)/\(ar (B.take g)).length<=675*g/\aV gq 5 n r L N O (ar (B.take g))/\ai b r/\∀e,n e->b.heap.size<=e,
  ⟨_,0,λ_=>False,rfl,Qj _,rfl,sM,by simp[ar],aV.nil b,aj.refl _,λ_ v=>v.elim⟩,?_⟩
 rintro K L N O P _ Y ⟨g,n,rfl,hj,rfl,w,Z,p,o,x⟩;refine al.dec (λa9=>?_) (λb0=>?_)
 ·obtain⟨e,y,h,es,rfl,_,_,Q,l,a1,n1,c1,rfl,hd,t⟩:=(F.af o).sS (i:=g) oM
  have j:=λi (hi:i<10)=>l i hi;refine⟨e,y,rfl,oM,oM,_,_,_,_,_,_,_,_,_,_,_,_,j 0 dC,j 1 dC,j 2 dC,j 3 dC,j 4 dC,j 5 dC,j 6 dC,j 7 dC,j 8 dC,j 9 dC,PA.mk λw2 k2 s2 g2=>?_⟩;refine storeAll (aE h a1 n1 c1) g2 rfl λw3 k3 s3 k=>?_;have q:ai Y w3:=k2.new k3 λe m=>.inr oM;refine⟨_,_,_,_,_,_,_,_,_,_,_,_,ae k rfl,ae k rfl,ae k rfl,ae k rfl,ae k rfl,ae k rfl,ae k rfl,ae k rfl,ae k rfl,ae k rfl,?_⟩;refine PC.ok (FC (V.af (o.then q)) (hd.af q) t λe m=>by have:=W e m;have:=(o.then q).size;omega) ?_;rintro _ R ⟨a4,n4,c4,F4,rfl,s,S,T⟩
  by_cases u:h.aK.length<=64
  ·have z:=rk t u
   rw[z]at s⊢;have b1:=NW t u;refine⟨_,_,_,_,rfl,al.dw (λl=>absurd rfl l) (λ_=>?_)⟩;have A:=q.then S;have a0:Row gq 1 R F4 a4 n4 (nP h):=s.row (bytes:=1) dC (by unfold aQ;dsimp only;omega);have b2:=A.size;have b3:=q.size;refine sE (p.af A) ur a0 (λh=>s.Pq h) (λe m=>⟨s.aF e m,λl=>by have:=p.aF e (p.self e l);have:=T e m;omega⟩) (by unfold aQ;omega) (by unfold maxLen;omega) λb4 c5 w5 F5 a3 a6 a7 _=>?_;have C:B.take (g+1)=B.take g++[h]:=by rw[Qw,Q];rfl
   refine⟨_,_,_,rfl,a-(g+1),oM,g+1,F5,an oM,oM,rfl,?_,?_,?_,(o.then A).new a6 λe m=>.inr (by have:=x e (p.self e m);omega),?_⟩
   ·rw[C]
    intro a2 E;rcases Q6.1 E with M|M
    ·exact w a2 M
    ·simp at M;subst M;exact⟨t,u⟩
   ·rw[C,oS];simp;omega
   ·rw[C,oS];exact a3
   ·intro e m
    have:=o.size;rcases a7 e m with M|M|M
    ·exact x e M
    ·have:=T e M;omega
    ·omega
  ·have z:=y_ u
   rw[z]at s⊢;refine⟨_,_,_,_,rfl,al.dw (λ_=>?_) (λl=>absurd l dC)⟩;have a5:B.any eD=true:=List.any_eq_true.2 ⟨h,QZ Q,by unfold eD;simp;omega⟩;rw[show bR B=([],3) by unfold bR;rw[if_pos a5]];exact Ok.mk ⟨none,0,0,λ_=>False,rfl,aV.nil R,(o.then q).then S,λ_ v=>v.elim⟩
 ·obtain rfl:g=a:=oM
  rw[Qz oM]at w Z p;have a8:B.any eD=false:=by
   rw[<-Bool.not_eq_true];intro l;obtain⟨h,he,U⟩:=List.any_eq_true.1 l;have:=(w h he).2;unfold eD at U;simp at U;omega
  rw[show bR B=(ar B,0) by unfold bR;rw[if_neg (by simp[a8])]];exact Ok.mk ⟨_,_,_,n,rfl,p,o,x⟩
def bL(no:Int)(f:List UInt8)(D:ak):Int×ak:=
 let a:=cR (aB no)
 let b:=D.create a
 if b.1≠0 then(b.1,b.2)else
 let c:=b.2.append a f
 if c.1≠0 then(c.1,(c.2.delete a).2)else
 let d:=c.2.sync a
 if d.1≠0 then(d.1,(d.2.delete a).2)else
 let e:=bJ d.2 [no]
 (e.1,if e.1≠0 then(e.2.delete a).2 else e.2)
def Ps{D:ak}{no:Int}(hL:Laid b)(M:bf b k a D f)(R:aN no)(h:Row gq 1 k a4 d c v)(c4:d=none->c=0/\i=0)(b2:∀e,a4 e->f e):
  Calls ZQ 116 #[ZX a,QH no,.slice d c i] k (Ok (nQ b k a f (bL no v D))):=by
 have e3:=M.gr.size;have S:∀e,f e->e<k.heap.size:=by obtain⟨a3,f1,f2,T,U⟩:=M;exact U
 refine Ai (PA.mk λy k1 s1 g1=>PA.mk λw2 V s2 g2=>PC.ok (jV (hL.af ((M.gr.then k1).then V)) R) ?_);rintro _ W ⟨rfl,N⟩;have z3:=N.size;refine⟨_,rfl,PA.mk λw4 X s4 g4=>PS.mk g4 sM λY Z s5 g5=>?_⟩
 let t:Nat->Prop:=λe=>f e\/(e=k.heap.size\/e=y.heap.size\/e=W.heap.size)
 have b3:ai k Y:=((((k1.then V).then N).then X)).new Z λe h=>.inr oM;have c9:bf b Y a D t:=M.add b3 λe h=>by omega
 let z:World->Int->Prop:=λl n=>l.heap[k.heap.size]? =some (.cells #[ZX a] 87 (0,0))/\l.heap[y.heap.size]? =some (.cells #[QH n] 34 (0,0))/\l.heap[W.heap.size]? =some (.cells #[.string (cR (aB no))] 9 (0,0))
 have C5:z Y 0:=⟨Z.get (X.get (N.get (V.get g1 id) id) id) oM,Z.get (X.get (N.get g2 id) id) oM,g5⟩
 have j:∀{l p:World} {n:Int},z l n->aj (et t) l p->z p n:=λo u=>
  ⟨u.get o.1 λq=>q (.inr (.inl rfl)),u.get o.2.1 λq=>q (.inr (.inr (.inl rfl))),u.get o.2.2 λq=>q (.inr (.inr (.inr rfl)))⟩
 have I:∀{l p:World},aj (et f) k l->aj (et t) l p->aj (et f) k p:=λd e=>d.then (e.mono λe _ h r=>h (.inl r));have g:∀{l:World} {n C:Int} {w:ak} {κ:World->Prop},z l n->bf b l a w t->aj (et f) k l->(∀p,z p C->bf b p a w t->aj (et f) k p->aj (·=y.heap.size) l p->κ p)->PS l ⟨y.heap.size,0,none⟩ (QH C) κ:=by
  intro l n C w κ o hN u a0;have h1:=aC o.2.1;refine PS.mk o.2.1 sM λp A e4 d0=>a0 p ⟨A.get o.1 oM,d0,A.get o.2.2 oM⟩ ?_ (u.then (A.mono λe _ h r=>by have:=S e r;omega)) A;obtain⟨a3,f1,f2,T,U⟩:=hN;exact⟨a3,f1.keep A λe h n=>(T e h).2 (.inr (.inr (.inl n))),f2.new A λe h=>.inr oM,T,λe h=>Qk (U e h) A.size⟩
 have m:∀{J:Int×ak} (n:Int) (w:ak) (l:World),bf b l a w t->aj (et f) k l->z l n->J=(n,if n≠0 then(w.delete (cR (aB no))).2 else w)->
   Lv ZQ (λb4=>∃b5:Int,b4.cell? ⟨y.heap.size,0,none⟩=some (QH b5)/\Ok (nQ b k a f J) (.returned (QH b5)) b4) (λch l=>Ok (nQ b k a f J) (.panicked ch) l)
    ([{target:=.fn (.func 170) #[ZX y.heap.size,ZX k.heap.size,ZX W.heap.size],args:= #[]}]:List Deferred) .returning l:=by
  intro J n w l q u o hr;refine Lv.one sM kR (CallsD.mono (uG (R:=λC K=>C= .returned (.tuple #[])/\∃b6:Int,K.cell? ⟨y.heap.size,0,none⟩=some (QH b6)/\Ok (nQ b k a f J) (.returned (QH b6)) K) ⟨_,ae o.2.1 rfl,al.dw (λs=>⟨_,ae o.1 rfl,_,ae o.2.2 rfl,PC.ok q.delete ?_⟩) (λB=>⟨rfl,_,ae o.2.1 rfl,Ok.mk ?_⟩)⟩) ?_)
  ·rintro _ wb ⟨rfl,d1,kb⟩
   have d2:=j o kb;refine⟨_,rfl,rfl,_,ae d2.2.1 rfl,Ok.mk ?_⟩;rw[hr,if_pos s];exact⟨rfl,d1.mono λe h=>.inl h,I u kb⟩
  ·rw[hr,if_neg (by simpa using B)]
   exact⟨rfl,q.mono λe h=>.inl h,u⟩
  ·rintro C u' K ⟨rfl,rfl,S⟩
   exact Lv.ret rfl S
 refine⟨_,ae C5.1 rfl,_,ae C5.2.2 rfl,PC.ok c9.create ?_⟩;rintro _ w6 ⟨rfl,b7,k6⟩;have C6:=j C5 k6;have d3:=I (ai.keep b3) k6;have hW:bL no v D=if(D.create (cR (aB no))).1≠0 then((D.create (cR (aB no))).1,(D.create (cR (aB no))).2)else
   if((D.create (cR (aB no))).2.append (cR (aB no)) v).1≠0 then(((D.create (cR (aB no))).2.append (cR (aB no)) v).1,(((D.create (cR (aB no))).2.append (cR (aB no)) v).2.delete (cR (aB no))).2)else
   if((((D.create (cR (aB no))).2.append (cR (aB no)) v).2).sync (cR (aB no))).1≠0 then(((((D.create (cR (aB no))).2.append (cR (aB no)) v).2).sync (cR (aB no))).1,(((((D.create (cR (aB no))).2.append (cR (aB no)) v).2).sync (cR (aB no))).2.delete (cR (aB no))).2)else
   ((bJ ((((D.create (cR (aB no))).2.append (cR (aB no)) v).2).sync (cR (aB no))).2 [no]).1,if(bJ ((((D.create (cR (aB no))).2.append (cR (aB no)) v).2).sync (cR (aB no))).2 [no]).1≠0 then((bJ ((((D.create (cR (aB no))).2.append (cR (aB no)) v).2).sync (cR (aB no))).2 [no]).2.delete (cR (aB no))).2 else(bJ ((((D.create (cR (aB no))).2.append (cR (aB no)) v).2).sync (cR (aB no))).2 [no]).2):=rfl
 rw[hW];generalize D.create (cR (aB no))=cr at b7⊢;refine⟨_,rfl,g C6 b7 d3 λK E b8 a5 k7=>⟨_,ae E.2.1 rfl,al.dw (λs=>?_) (λB=>?_)⟩⟩
 ·refine⟨_,ae E.2.1 rfl,g E b8 a5 λw8 C8 O a6 k8=>⟨_,ae C8.2.1 rfl,Ok.mk ?_⟩⟩
  rw[if_pos s];exact⟨rfl,O.mono λe h=>.inl h,a6⟩
 rw[if_neg (by simpa using B)];have d4:Row gq 1 K a4 d c v:=h.keep a5 λe h q=>q (b2 e h);refine⟨_,ae E.1 rfl,_,ae E.2.2 rfl,PC.ok (b8.append d4 c4 λe h=>.inr (.inl (b2 e h))) ?_⟩;rintro _ w8 ⟨rfl,O,k8⟩;have C8:=j E k8;have a6:=I a5 k8;generalize cr.2.append (cR (aB no)) v=ap at O⊢;refine⟨_,rfl,g C8 O a6 λw9 F b9 c0 k9=>⟨_,ae F.2.1 rfl,al.dw (λs=>?_) (λB=>?_)⟩⟩
 ·refine⟨_,ae F.2.1 rfl,g F b9 c0 λc1 a7 P a1 a8=>?_⟩
  rw[if_pos s];exact m _ _ c1 P a1 a7 (by rw[if_pos s])
 rw[if_neg (by simpa using B)];refine⟨_,ae F.1 rfl,_,ae F.2.2 rfl,PC.ok b9.sync ?_⟩;rintro _ c1 ⟨rfl,P,a8⟩;have a7:=j F a8;have a1:=I c0 a8;generalize ap.2.sync (cR (aB no))=sy at P⊢;refine⟨_,rfl,g a7 P a1 λa9 L b1 c2 e5=>⟨_,ae L.2.1 rfl,al.dw (λs=>?_) (λB=>?_)⟩⟩
 ·refine⟨_,ae L.2.1 rfl,g L b1 c2 λH b0 a2 c5 Q=>?_⟩
  rw[if_pos s];exact m _ _ H a2 c5 b0 (by rw[if_pos s])
 rw[if_neg (by simpa using B)];refine⟨_,ae L.1 rfl,PA.mk λH Q e6 c3=>?_⟩;have a2:bf b H a sy.2 (λe=>t e\/e=a9.heap.size):=b1.add Q λe h=>by subst h;exact⟨Q4 _,aC c3⟩
 have c6:Row aP 8 H (·=a9.heap.size) (ZZ a9.heap.size) 1 [no]:=Row.lit c3 [no] rfl (λc7 r=>by simp at r;subst r;exact R) (by unfold aQ;simp);refine PC.ok (a2.bJ hL.oH c6 (λc7 r=>by simp at r;subst r;exact R) λe h=>.inr (.inr h)) ?_;rintro _ d5 ⟨rfl,c8,d6⟩;have x:aj (et t) H d5:=d6.mono λe _ h hy=>h (.inl hy);have b0:z H sy.1:=j L (ai.keep Q);have d7:=j b0 x;have d8:=I (c2.af Q) x;exact⟨_,rfl,g d7 (c8.mono λe h=>.inl h) d8 λd9 e0 e1 e2 e7=>m _ _ d9 e1 e2 e0 rfl⟩
def jC:List Int->ak->ak
 |[],D=>D
 |no::a,D=>if(D.delete (au no)).1≠0 then(D.delete (au no)).2 else jC a (D.delete (au no)).2
def aU(a:cY)(D:ak)(b:List ah)(c:Int):oT:=
 if(bR b).2≠0 then⟨(bR b).2,[],a,D⟩else
 if(bL a.next (bR b).1 D).1≠0 then⟨(bL a.next (bR b).1 D).1,[],a,(bL a.next (bR b).1 D).2⟩else
 aM (jC a.aX (bL a.next (bR b).1 D).2) c
def LQ(e i:World)(f j:Nat)(k:cY)(c:Nat->Prop)(b:oT)(g:Value)(d:World):Prop:=
 ∃G,jr d f j G k/\(∀a,G a->e.heap.size<=a/\¬c a)/\aj (et c) i d/\
  ((b.no≠0/\g= .tuple #[.pointer none,QH b.no]/\bf e d f b.D (λa=>c a\/G a))\/
   (b.no=0/\∃h,g= .tuple #[ZX h,QH 0]/\cQ e d f h b.V b.D (λa=>c a\/G a)))
def Jo{D:ak}{U a5:Nat}(A:Laid b)(V:cQ b k a c b0 D f)(W:Row fZ 96 k a4 d U B)(b3:∀g,a4 g->g<k.heap.size)(hl:B.length<=20000000):
  Calls ZQ 60 #[ZX a,ZX c,.slice d U a5,QH e] k (Ok (LQ b k a c b0 f (aU b0 D B e))):=by
 obtain⟨G,J,v,C⟩:=id V;have d0:=v.many;refine vQ (PC.ok (LP (A.af V.gr) W b3 hl) ?_);rintro _ w1 ⟨b4,n1,c1,F1,rfl,K,q,b5⟩;have hz:∀g,(f g\/G g)->g<k.heap.size:=by obtain⟨d1,f1,f2,f3,f4⟩:=J;exact f4
 refine⟨_,_,_,_,rfl,al.dw (λl=>Ok.mk ?_) (λr=>PC.ok (RP (v.af q)) ?_)⟩
 ·rw[show aU b0 D B e=⟨(bR B).2,[],b0,D⟩ by unfold aU;rw[if_pos l]]
  exact⟨G,v.af q,C,ai.keep q,.inl ⟨l,rfl,J.af q⟩⟩
 rintro _ _ ⟨rfl,rfl⟩;have b6:bf b w1 a D (λg=>(f g\/G g)\/F1 g):=J.add q λg h=>⟨b5 g h,K.aF g h⟩
 have d2:(bR B).1.length<=13500000000:=by
  unfold bR;split
  ·simp
  ·rename_i b8
   have:∀o∈B,o.Ok/\o.aK.length<=64:=λo X=>by
    obtain⟨i,hi⟩:=List.mem_iff_getElem?.1 X;obtain⟨g,w,es,-,-,-,-,b4,n1,c1,-,-,b9⟩:=W.el i o hi;refine⟨b9,?_⟩;have:¬eD o=true:=λL=>b8 (List.any_eq_true.2 ⟨o,X,L⟩);unfold eD at this;simp at this;omega
   have:=wv this;show(ar B).length<=_;omega
 refine⟨_,rfl,PC.ok (Ps A b6 v.Cj (K.row (bytes:=1) dC (by unfold aQ;omega)) (λo=>K.Pq o) λg h=>.inr h) ?_⟩;rintro _ Y ⟨rfl,c0,Z⟩;have M:bf b Y a (bL b0.next (bR B).1 D).2 (λg=>f g\/G g):=c0.mono λg h=>.inl h;have N:=(v.af q).keep Z λg h m=>m (.inl (.inr h));have a6:aj (et f) k Y:=(ai.keep q).then (Z.mono λg _ h n=>h (.inl (.inl n)));have hC:aU b0 D B e=if(bL b0.next (bR B).1 D).1≠0 then⟨(bL b0.next (bR B).1 D).1,[],b0,(bL b0.next (bR B).1 D).2⟩else aM (jC b0.aX (bL b0.next (bR B).1 D).2) e:=by
  unfold aU;rw[if_neg (by simpa using r)]
 rw[hC];generalize bL b0.next (bR B).1 D=x at M⊢;refine⟨_,rfl,al.dw (λl=>Ok.mk ?_) (λr=>?_)⟩
 ·rw[if_pos l]
  exact⟨G,N,C,a6,.inl ⟨l,rfl,M⟩⟩
 rw[if_neg (by simpa using r)];refine⟨λp=>bf b p a (jC b0.aX x.2) (λg=>f g\/G g)/\jr p a c G b0/\aj (et f) k p,PC.ok (HA N) ?_,?_⟩
 ·rintro _ w3 ⟨a3,t,c3,E,rfl,O,P,c2⟩
  have d3:=O.len dC;have Q:bf b w3 a x.2 (λg=>(f g\/G g)\/E g):=M.add P λg h=>⟨c2 g h,O.aF g h⟩
  refine⟨_,_,_,rfl,λa0 a1 p=>∃(j:Nat) (s:ak),a1=j/\j<=t/\a0=t-j/\jC b0.aX x.2=jC (b0.aX.drop j) s/\bf b p a s (λg=>(f g\/G g)\/E g)/\aV aP 3 E p a3 t c3 b0.aX/\jr p a c G b0/\aj (et f) k p,
   ⟨_,0,x.2,rfl,Qj _,rfl,rfl,Q,O,N.af P,a6.af P⟩,?_⟩
  rintro a0 a1 _ w4 ⟨j,s,rfl,hj,rfl,F,y,R,a7,a8⟩;refine al.dec (λd4=>?_) (λd5=>?_)
  ·have c5:Row aP 8 w4 E a3 t b0.aX:=R.row dC (by unfold aQ;omega)
   obtain⟨g,w,u,rfl,n,c6,L⟩:=c5.mh (i:=j) oM;refine⟨g,w,rfl,oM,oM,u,L,PC.ok (jV (A.af y.gr) c6) ?_⟩;rintro _ w5 ⟨rfl,H⟩;refine⟨_,rfl,PC.ok (y.af H).delete ?_⟩;rintro _ w6 ⟨rfl,S,T⟩;have b7:b0.aX.drop j=u::b0.aX.drop (j+1):=by
    obtain⟨c7,rfl⟩:=Qv.1 n;exact X4 c7
   rw[b7]at F;have I:jC b0.aX x.2=if(s.delete (cR (aB u))).1≠0 then(s.delete (cR (aB u))).2 else jC (b0.aX.drop (j+1)) (s.delete (cR (aB u))).2:=F
   have a9:=(a7.af H).keep T λg h m=>m (.inl (.inr h));have a2:aj (et f) k w6:=(a8.af H).then (T.mono λg _ h n=>h (.inl (.inl n)));have c8:=(R.af H).keep T λg h m=>m (.inr h);generalize s.delete (cR (aB u))=c4 at I S⊢;refine⟨_,rfl,al.dw (λl=>?_) (λr=>?_)⟩
   ·rw[I,if_pos l]
    exact⟨S.mono λg h=>.inl h,a9,a2⟩
   ·rw[if_neg (by simpa using r)]at I
    exact⟨t-(j+1),oM,j+1,c4.2,an oM,oM,rfl,I,S,c8,a9,a2⟩
  ·obtain rfl:j=t:=oM
   rw[List.drop_of_length_le oM]at F;rw[F];exact⟨y.mono λg h=>.inl h,a7,a8⟩
 ·rintro _ w3 ⟨Q,b1,b2⟩
  refine PC.ok (Jp (size:=e) A Q) ?_;rintro _ w4 (⟨l,rfl,y,z⟩|⟨r,q2,d6,n4,d7,G4,rfl,R,c9,z,-,-,-⟩)
  ·exact⟨_,_,_,_,_,rfl,Ok.mk ⟨G,b1.keep z λg h m=>m (.inr h),C,b2.then (z.mono λg _ h n=>h (.inl n)),.inl ⟨l,rfl,y⟩⟩⟩
  ·exact⟨_,_,_,_,_,rfl,Ok.mk ⟨G,b1.keep z λg h m=>m (.inr h),C,b2.then (z.mono λg _ h n=>h (.inl n)),.inr ⟨r,q2,rfl,c9.mono λg h=>.inl h⟩⟩⟩
end Go.Proofs.YtfchlbaidamodaaGreatDoor

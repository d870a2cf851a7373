import Derived.Test.YtblabbpipmodgaaGreatDoorKp16
set_option maxHeartbeats 4000000
set_option linter.all false
set_option maxRecDepth 20000
namespace Go.Proofs.YtblabbpipmodgaaGreatDoor
open Go.aw
def mB(P:List UInt8):cm:=⟨P,P.length,true⟩
structure cF (D:al):Prop where
 dead:D.dead=false
 iN:D.iN=false
variable{a0:cm}
section
variable {D E:al} {k:ByteArray} {l:List Int}
def GS(D:al)(P:al->Int×al):D.op P=(15,D.gone)\/D.op P=P D.cN:=by
 unfold al.op;split
 ·exact .inl rfl
 ·exact .inr rfl
def cF.op(a:cF D)(P:al->Int×al):D.op P=P D:=by
 unfold al.op al.dies al.cN;rw[a.dead,a.iN]
 rfl
def cF.same(P:cF D)(a:E.dead=D.dead)(b:E.iN=D.iN):cF E:=⟨a.trans P.dead,b.trans P.iN⟩
def Oq(P:cm):P.cut P.bytes.length=mB P.bytes:=by
 have a:jU (P.bytes.length:Int) P.bytes.length=P.bytes.length:=by unfold jU;omega
 simp[cm.cut,a,mB]
def np(D:al)(k:ByteArray):((D.create k).1≠0/\(D.create k).2.files=D.files)\/((D.create k).1=0/\cT k=true/\az D.files k=none/\(D.create k).2.files=aK D.files k ⟨[],0,false⟩):=by
 unfold al.create;rcases GS D λD=>if cT k then(if(az D.files k).isSome then(16,D)else if 64<=D.files.length then(12,D)else(0,D.fH k ⟨[],0,false⟩))else(1,D)with h|h
 ·rw[h];exact .inl ⟨sM,rfl⟩
 ·rw[h]
  have P:=eH D;split
  ·rename_i a
   split
   ·exact .inl ⟨sM,P⟩
   ·split
    ·exact .inl ⟨sM,P⟩
    ·rename_i b _
     refine .inr ⟨rfl,a,?_,?_⟩
     ·rw[<-P];simpa using b
     ·show aK D.cN.files k _=_;rw[P]
  ·exact .inl ⟨sM,P⟩
def cF.create(P:cF D)(k:ByteArray):cF (D.create k).2/\(cT k=true->az D.files k=none->(D.create k).1=0\/(D.create k).1=12):=by
 unfold al.create;rw[P.op];split
 ·split
  ·rename_i d b;exact⟨P,λ_ a=>by rw[a]at b;cases b⟩
  ·split
   ·exact⟨P,λ_ _=>.inr rfl⟩
   ·exact⟨P.same rfl rfl,λ_ _=>.inl rfl⟩
 ·rename_i a;exact⟨P,λc=>Zz c a⟩
def ug(D:al)(k:ByteArray)(P:al->cm->Int×al):((D.op (al.Cb k P)).1≠0/\(D.op (al.Cb k P)).2.files=D.files)\/∃a,az D.files k=some a/\D.op (al.Cb k P)=P D.cN a:=by
 rcases GS D (al.Cb k P)with h|h
 ·rw[h];exact .inl ⟨sM,rfl⟩
 ·rw[h]
  unfold al.Cb;rw[eH];split
  ·exact .inl ⟨sM,eH D⟩
  ·rename_i a b;exact .inr ⟨a,b,rfl⟩
def cF.on(a:cF D)(b:az D.files k=some a0)(P:al->cm->Int×al):D.op (al.Cb k P)=P D a0:=by
 rw[a.op];unfold al.Cb;rw[b]
def cF.Vj(a:cF D){P:al->cm->Int×al}(b:∀c,cF (P D c).2):cF (D.op (al.Cb k P)).2:=by
 rw[a.op];unfold al.Cb;split
 ·exact a
 ·exact b _
def nq(D:al)(k:ByteArray)(a:List UInt8):((D.append k a).1≠0/\(D.append k a).2.files=D.files)\/((D.append k a).1=0/\∃P,az D.files k=some P/\(D.append k a).2.files=aK D.files k {P with bytes:=P.bytes++a}):=by
 unfold al.append;rcases ug D k λD P=>if(a.length:Int)>D.room then(12,D)else(0,D.fH k {P with bytes:=P.bytes++a})with b|⟨P,c,b⟩
 ·exact .inl b
 ·rw[b]
  split
  ·exact .inl ⟨sM,eH D⟩
  ·exact .inr ⟨rfl,P,c,by show aK D.cN.files k _=_;rw[eH]⟩
def cF.append(P:cF D)(k:ByteArray)(a:List UInt8):cF (D.append k a).2/\∀b,az D.files k=some b->(D.append k a).1=0\/(D.append k a).1=12:=by
 refine⟨?_,λb c=>?_⟩
 ·unfold al.append
  refine P.Vj λb=>?_;split
  ·exact P
  ·exact P.same rfl rfl
 ·unfold al.append
  rw[P.on c];split
  ·exact .inr rfl
  ·exact .inl rfl
def iO(D:al)(k:ByteArray):((D.sync k).1≠0/\(D.sync k).2.files=D.files)\/((D.sync k).1=0/\∃P,az D.files k=some P/\(D.sync k).2.files=aK D.files k (mB P.bytes)):=by
 unfold al.sync;rcases ug D k λD P=>(0,D.fH k (P.cut P.bytes.length))with a|⟨P,b,a⟩
 ·exact .inl a
 ·rw[a,Oq];exact .inr ⟨rfl,P,b,by show aK D.cN.files k _=_;rw[eH]⟩
def cF.sync(P:cF D)(k:ByteArray):cF (D.sync k).2/\∀a,az D.files k=some a->(D.sync k).1=0:=by
 refine⟨?_,λa b=>?_⟩
 ·unfold al.sync;exact P.Vj λa=>P.same rfl rfl
 ·unfold al.sync;rw[P.on b]
def Aa(D:al)(k:ByteArray):(D.delete k).2.files=D.files\/(D.delete k).2.files=bK D.files k:=by
 unfold al.delete;rcases ug D k λD a=>(0,D.uh k)with P|⟨a,b,P⟩
 ·exact .inl P.2
 ·rw[P];exact .inr (by show bK D.cN.files k=_;rw[eH])
def cF.delete(P:cF D)(k:ByteArray):cF (D.delete k).2/\((D.delete k).2.files=bK D.files k\/(az D.files k=none/\(D.delete k).2.files=D.files)):=by
 unfold al.delete;refine⟨P.Vj λb=>P.same rfl rfl,?_⟩;rw[P.op];unfold al.Cb;split
 ·rename_i a;exact .inr ⟨a,rfl⟩
 ·exact .inl rfl
def vU(k:ByteArray)(D E:al):Prop:=Tidy E.files/\∀P,P≠k->az E.files P=az D.files P
def vU.refl(P:Tidy D.files):vU k D D:=⟨P,λ_ _=>rfl⟩
def vU.of(P:vU k D E){a:al}(b:a.files=E.files):vU k D a:=⟨by rw[b];exact P.1,λc d=>by rw[b];exact P.2 c d⟩
def vU.put(P:vU k D E){a:al}(b:a.files=aK E.files k a0):vU k D a:=⟨by rw[b];exact P.1.aK _ _,λd c=>by rw[b,bL,Zq (by simpa using c)];exact P.2 d c⟩
def vU.del(P:vU k D E){F:al}(a:F.files=bK E.files k):vU k D F:=⟨by rw[a];exact P.1.bK _,λc b=>by rw[a,jL P.1,Zq (by simpa using b)];exact P.2 c b⟩
def vU.clean(P:vU aS D E):vU aS D (dS E).2:=by
 unfold dS;split
 ·rcases Aa E aS with e|e
  ·exact P.of e
  ·exact P.del e
 ·exact P
def Ab:aS≠cJ:=λP=>by have:=tn;rw[P]at this;simp at this
def QG(D:al)(l:List Int)(P:Int×al):Prop:=(P.1≠0/\vU aS D P.2)\/
  (P.1=0/\l.length<=64/\Tidy P.2.files/\az P.2.files cJ=some (mB (cZ l))/\∀a,a≠aS->a≠cJ->az P.2.files a=az D.files a)
def QG.step{a k:Nat}{r:Int×al}(g:nY l a E=r)(b:r.1≠0->vU aS D r.2)(j:r.1=0->QG D l (ns l (a+1) k r.2)):QG D l (ns l a (k+1) E):=by
 rw[ns,g];split
 ·rename_i P;exact .inl ⟨P,(b P).clean⟩
 ·rename_i P;exact j (by simpa using P)
def Ot(o:Tidy D.files)(l:List Int):QG D l (bt D l):=by
 unfold bt;split
 ·exact .inl ⟨sM,vU.refl o⟩
 rename_i z;have i:vU aS D (dS D).2:=(vU.refl o).clean;refine QG.step (r:=dS D) rfl (λ_=>i) λ_=>?_;generalize(dS D).2=e at i;have B:=np e aS;refine QG.step (r:=e.create aS) rfl (λd=>?_) λu=>?_
 ·rcases B with B|B
  ·exact i.of B.2
  ·exact Zz B.1 d
 rcases B with B|⟨_,_,_,B⟩
 ·exact Zz u B.1
 have k:vU aS D (e.create aS).2:=i.put B;have p:az (e.create aS).2.files aS=some ⟨[],0,false⟩:=by rw[B,bL];simp
 generalize(e.create aS).2=f at k p;have b:=nq f aS (cZ l);refine QG.step (r:=f.append aS (cZ l)) rfl (λd=>?_) λv=>?_
 ·rcases b with b|b
  ·exact k.of b.2
  ·exact Zz b.1 d
 rcases b with b|⟨_,j,c,b⟩
 ·exact Zz v b.1
 rw[p]at c;cases c
 have m:vU aS D (f.append aS (cZ l)).2:=k.put b;have q:az (f.append aS (cZ l)).2.files aS=some ⟨cZ l,0,false⟩:=by rw[b,bL];simp
 generalize(f.append aS (cZ l)).2=g at m q;have F:=iO g aS;refine QG.step (r:=g.sync aS) rfl (λd=>?_) λw=>?_
 ·rcases F with F|F
  ·exact m.of F.2
  ·exact Zz F.1 d
 rcases F with F|⟨_,j,c,F⟩
 ·exact Zz w F.1
 rw[q]at c;cases c
 have h:vU aS D (g.sync aS).2:=m.put F;have r:az (g.sync aS).2.files aS=some (mB (cZ l)):=by rw[F,bL];simp
 generalize(g.sync aS).2=P at h r;have a:((P.rename aS cJ).1≠0/\(P.rename aS cJ).2.files=P.files)\/((P.rename aS cJ).1=0/\(P.rename aS cJ).2.files=aK (bK P.files aS) cJ (mB (cZ l))):=by
  unfold al.rename;rcases ug P aS λD j=>if cT cJ then(0,(D.uh aS).fH cJ {j with jV:=true})else(1,D)with n|⟨j,c,n⟩
  ·exact .inl n
  ·rw[n,Zx GU]
   rw[r]at c;cases c
   exact .inr ⟨rfl,by show aK (bK P.cN.files aS) cJ _=_;rw[eH];rfl⟩
 refine QG.step (r:=P.rename aS cJ) rfl (λd=>?_) λx=>?_
 ·rcases a with a|a
  ·exact h.of a.2
  ·exact Zz a.1 d
 rcases a with a|⟨_,a⟩
 ·exact Zz x a.1
 refine .inr ⟨rfl,oM,?_,?_,λs t y=>?_⟩
 ·show Tidy (P.rename aS cJ).2.files;rw[a];exact(h.1.bK _).aK _ _
 ·show az (P.rename aS cJ).2.files cJ=_;rw[a,bL];simp
 ·show az (P.rename aS cJ).2.files s=_
  rw[a,bL,Zq (by simpa using y),jL h.1,Zq (by simpa using t)];exact h.2 s t
def QH(P:Int×al):Prop:=cF P.2/\(P.1=0\/P.1=3\/P.1=12)
def cF.clean(P:cF D):cF (dS D).2:=by
 unfold dS;split
 ·exact(P.delete _).1
 ·exact P
def Jr(b:cF D)(P:Tidy D.files):(dS D).1=0/\az (dS D).2.files aS=none/\Tidy (dS D).2.files:=by
 unfold dS;split
 ·rename_i a
  obtain⟨e,c⟩:=Option.isSome_iff_exists.1 a;have d:D.delete aS=(0,D.uh aS):=by unfold al.delete;rw[b.on c]
  rw[d];exact⟨rfl,by show az (bK _ _) _=_;rw[jL P];simp,P.bK _⟩
 ·rename_i a;exact⟨rfl,by simpa using a,P⟩
def QH.step{P k:Nat}{r:Int×al}(g:nY l P E=r)(a:cF r.2)(j:r.1=0\/r.1=3\/r.1=12)(b:r.1=0->QH (ns l (P+1) k r.2)):QH (ns l P (k+1) E):=by
 rw[ns,g];split
 ·exact⟨a.clean,j⟩
 ·rename_i c;exact b (by simpa using c)
def cF.bt(i:cF D)(s:Tidy D.files)(l:List Int):QH (bt D l):=by
 unfold Go.Proofs.YtblabbpipmodgaaGreatDoor.bt;split
 ·exact⟨i,.inr (.inl rfl)⟩
 obtain⟨z1,p,t⟩:=Jr i s;have j:=i.clean;refine QH.step (r:=dS D) rfl j (.inl z1) λ_=>?_;generalize(dS D).2=e at j p t;have P:=np e aS;obtain⟨k,u⟩:=j.create aS;refine QH.step (r:=e.create aS) rfl k ((u QI p).imp id .inr) λv=>?_;rcases P with P|⟨_,_,_,P⟩
 ·exact Zz v P.1
 have q:az (e.create aS).2.files aS=some ⟨[],0,false⟩:=by rw[P,bL];simp
 generalize(e.create aS).2=f at k q;have a:=nq f aS (cZ l);obtain⟨m,w⟩:=k.append aS (cZ l);refine QH.step (r:=f.append aS (cZ l)) rfl m ((w _ q).imp id .inr) λx=>?_;rcases a with a|⟨_,b,A,a⟩
 ·exact Zz x a.1
 have g:∃b,az (f.append aS (cZ l)).2.files aS=some b:=by rw[a,bL];simp
 generalize(f.append aS (cZ l)).2=h at m g;obtain⟨B,g⟩:=g;have c:=iO h aS;obtain⟨d,y⟩:=m.sync aS;refine QH.step (r:=h.sync aS) rfl d (.inl (y _ g)) λz=>?_;rcases c with c|⟨_,b,C,c⟩
 ·exact Zz z c.1
 have r:az (h.sync aS).2.files aS=some (mB b.bytes):=by rw[c,bL];simp
 generalize(h.sync aS).2=n at d r;have o:n.rename aS cJ=(0,(n.uh aS).fH cJ {mB b.bytes with jV:=true}):=by
  unfold al.rename;rw[d.on r,Zx GU]
 refine QH.step (r:=n.rename aS cJ) rfl (by rw[o];exact d.same rfl rfl) (.inl (by rw[o])) λE=>?_;rw[o];exact⟨d.same rfl rfl,.inl rfl⟩
end
abbrev yp:=List (Int×List aj)
def rq(P:yp):List Int:=P.map (·.1)
def lg(P:yp)(a:List aj):List aj:=(P.map (·.2)).flatten++a
structure dT (D:al) (A:yp) (no:Int) (l:List aj) (k:Nat):Prop where
 tidy:Tidy D.files
 full:∀x∈A,az D.files (aC x.1)=some (mB (aG x.2))
 last:∃s,az D.files (aC no)=some ⟨aG l,s,true⟩/\(aG (l.take k)).length<=s/\s<=(aG l).length
 kl:k<=l.length
 VA:az D.files cJ=some (mB (cZ (rq A++[no])))
 IL:∀n∈rq A++[no],1<=n/\n<1000000000000
 DZ:(rq A++[no]).Pairwise (·<·)
 evs:∀e∈lg A l,e.Ok/\e.aQ.length<=64
 many:A.length+1<=64
structure Lt (V:cY) (A:yp) (no:Int) (l:List aj):Prop where
 a_:V.a_=rq A++[no]
 bytes:V.bytes=((aG l).length:Nat)
 next:no<V.next/\V.next<=1000000000000
def ki{n:Int}(d:cT (aC n)=true\/0<=n/\n<1000000000000):aC n≠cJ/\aC n≠aS:=by
 have b:cJ.data.toList.take 4≠du:=by decide+kernel
 have c:aS.data.toList.take 4≠du:=by decide+kernel
 have P:(aC n).data.toList.take 4=du\/(aC n).data.toList=[]:=by
  unfold aC;rw[qh];unfold ax;split
  ·exact .inr rfl
  ·exact .inl (by simp[du])
 refine⟨λa=>?_,λa=>?_⟩
 ·rw[a]at P
  rcases P with P|P
  ·exact b P
  ·revert P;decide+kernel
 ·rw[a]at P
  rcases P with P|P
  ·exact c P
  ·revert P;decide+kernel
def gi{a P:Int}(b:0<=a/\a<1000000000000)(c:aC P=aC a):P=a:=Hx b.1 b.2 (Lu c)
variable{e:Int}{w:List UInt8}{C:List aj}{a c i:Nat}{a4 f:XN}{d:ZH}{b k:World}{b0:cY}
def AN(a:0<=e):cT (aC e)=true↔e<1000000000000:=by
 constructor
 ·intro P
  by_cases b:e<1000000000000
  ·exact b
  ·have:aC e=cE []:=by unfold aC ax;rw[Zx (.inr oM)]
   have c:cT (cE [])=false:=by decide+kernel
   rw[this,c]at P;cases P
 ·intro P;exact Hy a P
def AO(P:yp)(no:Int)(a b:List aj):lg (P++[(no,a)]) b=lg P a++b:=by simp[lg]
section
variable {D E:al} {A:yp} {no:Int} {l x:List aj} {k j:Nat} {V:cY}
def dT.same(P:dT D A no l k)(d:Tidy E.files)(a:∀b∈rq A++[no],az E.files (aC b)=az D.files (aC b))(e:az E.files cJ=az D.files cJ):dT E A no l k:=
 ⟨d,λx c=>(a x.1 (ZV _ (Xk.2 ⟨x,c,rfl⟩))).trans (P.full x c),by
  obtain⟨f,g,h⟩:=P.last;exact⟨f,(a no (ZW _ (List.mem_singleton.2 rfl))).trans g,h⟩,P.kl,e.trans P.VA,P.IL,P.DZ,P.evs,P.many⟩
def dT.files(a:dT D A no l k)(P:E.files=D.files):dT E A no l k:=a.same (by rw[P];exact a.tidy) (λ_ _=>by rw[P]) (by rw[P])
def dT.wo(P:dT D A no l k):1<=no/\no<1000000000000:=P.IL no (ZW _ (List.mem_singleton.2 rfl))
def dT.Ux(a:dT D A no l k):∀P∈A,aC P.1≠aC no:=λP c d=>by
 have e:=a.wo;have:=gi ⟨oM,e.2⟩ d;have b:=a.DZ;rw[List.pairwise_append]at b;have:=b.2.2 P.1 (Xk.2 ⟨P,c,rfl⟩) no (List.mem_singleton.2 rfl);omega
def dT.put(P:dT D A no l k){s c:Nat}(a:E.files=aK D.files (aC no) ⟨aG C,s,true⟩)(f:c<=C.length)(g:(aG (C.take c)).length<=s)(h:s<=(aG C).length)(i:∀b∈C,b.Ok/\b.aQ.length<=64):dT E A no C c:=
 ⟨by rw[a];exact P.tidy.aK _ _,λd e=>by rw[a,bL,Zq (by simpa using P.Ux d e)];exact P.full d e,⟨s,by rw[a,bL];simp,g,h⟩,f,by
  have:=(ki (n:=no) (.inr (by have:=P.wo;omega))).1;rw[a,bL,Zq (by simpa using this.symm)];exact P.VA,P.IL,P.DZ,λb a=>by
  rcases Q6.1 a with F|F
  ·exact P.evs b (ZV _ F)
  ·exact i b F,P.many⟩
def dT.Wh(a:dT D A no l k):∀P∈l,P.Ok/\P.aQ.length<=64:=λP b=>a.evs P (ZW _ b)
def dT.AP(P:Lt V A no l):V.last=aC no:=by unfold cY.last;rw[P.a_];simp[aC]
def dT.mono(P:dT D A no l k)(a:j<=k):dT D A no l j:=by
 obtain⟨b,c,d,e⟩:=P.last;exact⟨P.tidy,P.full,⟨b,c,Xx (Ka a) d,e⟩,Xx a P.kl,P.VA,P.IL,P.DZ,P.evs,P.many⟩
def Ds(P:dT D A no l k):((D.sync (aC no)).1=0/\dT (D.sync (aC no)).2 A no l l.length)\/((D.sync (aC no)).1≠0/\dT (D.sync (aC no)).2 A no l k):=by
 rcases iO D (aC no)with⟨a,b⟩|⟨a,e,c,b⟩
 ·exact .inr ⟨a,P.files b⟩
 ·obtain⟨f,d,g,h⟩:=P.last
  rw[d]at c;cases c
  exact .inl ⟨a,P.put b (Q4 _) (by rw[List.take_length];exact Q4 _) (Q4 _) P.Wh⟩
def tf(n:Tidy D.files)(o:0<=V.next):((bu V D).1≠0/\(bu V D).2.1=V/\Tidy (bu V D).2.2.files/\∀x,x≠aC V.next->x≠aS->az (bu V D).2.2.files x=az D.files x)\/
  ((bu V D).1=0/\V.next<1000000000000/\V.a_.length+1<=64/\az D.files (aC V.next)=none/\(bu V D).2.1=⟨V.size,V.a_++[V.next],0,V.next+1⟩/\Tidy (bu V D).2.2.files/\az (bu V D).2.2.files (aC V.next)=some (mB [])/\
   az (bu V D).2.2.files cJ=some (mB (cZ (V.a_++[V.next])))/\∀x,x≠aC V.next->x≠aS->x≠cJ->az (bu V D).2.2.files x=az D.files x):=by
 unfold bu;dsimp only;rw[show cE (ax V.next)=aC V.next from rfl];rcases np D (aC V.next)with⟨f,g⟩|⟨f,g,w,p⟩
 ·rw[Zx f]
  exact .inl ⟨f,rfl,by show Tidy (D.create _).2.files;rw[g];exact n,λx _ _=>by show az (D.create (aC V.next)).2.files x=_;rw[g]⟩
 have q:=(AN o).1 g;obtain⟨y,nt⟩:=ki (n:=V.next) (.inr ⟨o,q⟩);rw[Zq (show¬(D.create (aC V.next)).1≠0 by simpa using f)];have h:vU (aC V.next) D (D.create (aC V.next)).2:=(vU.refl n).put p;have r:az (D.create (aC V.next)).2.files (aC V.next)=some ⟨[],0,false⟩:=by rw[p,bL];simp
 generalize(D.create (aC V.next)).2=a at h r;unfold lO;dsimp only;rw[show cE (ax V.next)=aC V.next from rfl];have b:∀{F:al},Tidy F.files->(∀x,x≠aC V.next->x≠aS->az F.files x=az D.files x)->Tidy (F.delete (aC V.next)).2.files/\∀x,x≠aC V.next->x≠aS->az (F.delete (aC V.next)).2.files x=az D.files x:=by
  intro F m s;rcases Aa F (aC V.next)with e|e
  ·rw[e];exact⟨m,s⟩
  ·rw[e];exact⟨m.bK _,λx P c=>by rw[jL m,Zq (by simpa using P)];exact s x P c⟩
 rcases iO a (aC V.next)with⟨i,d⟩|⟨i,E,t,d⟩
 ·rw[Zx i]
  have:=b (F:=(a.sync (aC V.next)).2) (by rw[d];exact h.1) λx P _=>by rw[d];exact h.2 x P
  exact .inl ⟨i,rfl,this⟩
 rw[r]at t;cases t
 have j:vU (aC V.next) D (a.sync (aC V.next)).2:=h.put d;have u:az (a.sync (aC V.next)).2.files (aC V.next)=some (mB []):=by rw[d,bL];simp
 rw[Zq (show¬(a.sync (aC V.next)).1≠0 by simpa using i)];generalize(a.sync (aC V.next)).2=z at j u;rcases Ot j.1 (V.a_++[V.next])with⟨k,l⟩|⟨k,l,A,B,v⟩
 ·rw[Zx k]
  have:=b (F:=(bt z (V.a_++[V.next])).2) l.1 λx P c=>(l.2 x c).trans (j.2 x P);exact .inl ⟨k,rfl,this⟩
 ·rw[Zq (by simpa using k)]
  refine .inr ⟨rfl,q,by simpa using l,w,?_,A,(v _ nt y).trans u,B,λx P c C=>(v x c C).trans (j.2 x P)⟩;rw[wrap_i64 bb]
def dT.bu(c:dT D A no l l.length)(j:Lt V A no l):((bu V D).1≠0/\(bu V D).2.1=V/\dT (bu V D).2.2 A no l l.length)\/
  ((bu V D).1=0/\(bu V D).2.1.size=V.size/\dT (bu V D).2.2 (A++[(no,l)]) V.next [] 0/\Lt (bu V D).2.1 (A++[(no,l)]) V.next []/\(bu V D).2.1.next=V.next+1):=by
 have H:=c.wo;have I:=j.next;have q:∀P∈rq A++[no],P<V.next:=λP b=>by
  rcases Q6.1 b with a|a
  ·have k:=c.DZ
   rw[List.pairwise_append]at k;have:=k.2.2 P a no (List.mem_singleton.2 rfl);omega
  ·have:=List.mem_singleton.1 a;omega
 have m:∀P∈rq A++[no],aC P≠aC V.next:=λP b e=>by
  have a:=c.IL P b;have k:=q P b;have:=gi (a:=P) ⟨oM,a.2⟩ e.symm;omega
 have f:∀P∈rq A++[no],aC P≠cJ/\aC P≠aS:=λP b=>ki (.inr (by have:=c.IL P b;omega));have u:cJ≠aC V.next:=λe=>by
  by_cases J:V.next<1000000000000
  ·exact(ki (n:=V.next) (.inr oM)).1 e.symm
  ·have v:aC V.next=cE []:=by unfold aC ax;rw[Zx (.inr oM)]
   rw[v]at e
   revert e;decide+kernel
 rcases tf (V:=V) c.tidy oM with⟨n,r,h,o⟩|⟨n,r,h,o,g,w,x,s,t⟩
 ·exact .inl ⟨n,r,c.same h (λP b=>o _ (m P b) (f P b).2) (o _ u λe=>Ab e.symm)⟩
 ·rw[j.a_]at h s
  have y:A.length+1+1<=64:=by simpa[rq]using h
  have i:rq (A++[(no,l)])=rq A++[no]:=by simp[rq]
  refine .inr ⟨n,by rw[g],⟨w,λp z=>?_,⟨0,x,by simp[aG],Qj _⟩,Q4 _,by rw[i];exact s,?_,?_,by rw[AO,List.append_nil];exact c.evs,by simpa using y⟩,⟨by rw[g,i,j.a_],by rw[g];simp[aG],by rw[g];simp only;omega⟩,by rw[g]⟩
  ·rcases Q6.1 z with a|a
   ·have d:p.1∈rq A++[no]:=ZV _ (Xk.2 ⟨p,a,rfl⟩)
    rw[t _ (m _ d) (f _ d).2 (f _ d).1];exact c.full p a
   ·rw[List.mem_singleton]at a
    subst a;have d:no∈rq A++[no]:=ZW _ (List.mem_singleton.2 rfl);obtain⟨B,C,E,K⟩:=c.last;rw[List.take_length]at E;have F:B=(aG l).length:=oM
    show az _ (aC no)=_;rw[t _ (m _ d) (f _ d).2 (f _ d).1,C,F];rfl
  ·rw[i]
   intro P b;rcases Q6.1 b with a|a
   ·exact c.IL P a
   ·have:=List.mem_singleton.1 a;omega
  ·rw[i,List.pairwise_append]
   exact⟨c.DZ,List.pairwise_singleton _ _,λP b L d=>by have:=List.mem_singleton.1 d;have:=q P b;omega⟩
def dT.begin(d:dT D A no l k)(a:Lt V A no l):((aJ V D).1≠0/\(aJ V D).2.1=V/\dT (aJ V D).2.2 A no l k)\/
  ((aJ V D).1=0/\(aJ V D).2.1.size=V.size/\dT (aJ V D).2.2 (A++[(no,l)]) V.next [] 0/\Lt (aJ V D).2.1 (A++[(no,l)]) V.next []/\(aJ V D).2.1.next=V.next+1):=by
 have e:¬V.a_=[]:=by rw[a.a_];simp
 have f:aJ V D=if(D.sync (aC no)).1≠0 then((D.sync (aC no)).1,V,(D.sync (aC no)).2)else Go.Proofs.YtblabbpipmodgaaGreatDoor.bu V (D.sync (aC no)).2:=by
  unfold aJ;rw[Zq e,dT.AP a]
 rw[f];rcases Ds d with⟨P,c⟩|⟨P,c⟩
 ·rw[Zq (by simpa using P)]
  rcases c.bu a with⟨g,h,i⟩|b
  ·exact .inl ⟨g,h,i.mono d.kl⟩
  ·exact .inr b
 ·rw[Zx P];exact .inl ⟨P,rfl,c⟩
end
def bU(P:List aj):List UInt8×Int:=if P.any eK then([],3)else(aG P,0)
def Jl(V:Laid b)(E:Row h_ 96 b f d a C)(W:∀P,f P->P<b.heap.size)(hl:C.length<=20000000):
  ZG 115 #[.slice d a c] b (Ok λX q=>∃F H I m,X= .tuple #[.slice F H I,XH (bU C).2]/\aT fz 5 m q F H I (bU C).1/\ai b q/\∀P,m P->b.heap.size<=P):=by
 have hn:=E.len;refine vG ⟨λJ K L N O q=>∃(e:Nat) (m:XN),O=e/\e<=a/\J=a-e/\(∀g∈C.take e,g.Ok/\g.aQ.length<=64)/\(aG (C.take e)).length<=675*e/\aT fz 5 m q K L N (aG (C.take e))/\ai b q/\∀P,m P->b.heap.size<=P,
  ⟨_,0,λ_=>False,rfl,Qj _,rfl,sM,by simp[aG],aT.nil b,ak.refl _,λ_ u=>u.elim⟩,?_⟩
 rintro J K L N O _ Y ⟨e,m,rfl,hj,rfl,v,Z,o,n,w⟩;refine an.dec (λa9=>?_) (λb0=>?_)
 ·obtain⟨P,x,g,es,rfl,_,_,Q,k,a1,n1,c1,rfl,hd,s⟩:=(E.ah n).wK (i:=e) oM
  have h:=λi (hi:i<10)=>k i hi;refine⟨P,x,rfl,oM,oM,_,_,_,_,_,_,_,_,_,_,_,_,h 0 dC,h 1 dC,h 2 dC,h 3 dC,h 4 dC,h 5 dC,h 6 dC,h 7 dC,h 8 dC,h 9 dC,PA.mk λw2 k2 s2 g2=>?_⟩;refine storeAll (aD g a1 n1 c1) g2 rfl λw3 k3 s3 j=>?_;have p:ai Y w3:=k2.new k3 λP l=>.inr oM;refine⟨_,_,_,_,_,_,_,_,_,_,_,_,ae j rfl,ae j rfl,ae j rfl,ae j rfl,ae j rfl,ae j rfl,ae j rfl,ae j rfl,ae j rfl,ae j rfl,?_⟩;refine PC.ok (CM (V.ah (n.then p)) (hd.ah p) s λP l=>by have:=W P l;have:=(n.then p).size;omega) ?_;rintro _ R ⟨a4,n4,c4,F4,rfl,r,S,T⟩
  by_cases t:g.aQ.length<=64
  ·have y:=pC s t
   rw[y]at r⊢;have b1:=KU s t;refine⟨_,_,_,_,rfl,an.dI (λk=>Zz rfl k) (λ_=>?_)⟩;have z:=p.then S;have a0:Row fz 1 R F4 a4 n4 (vS g):=r.row (bytes:=1) dC (by unfold aO;dsimp only;omega);have b2:=z.size;have b3:=p.size;refine yy (o.ah z) si a0 (λg=>r.Mo g) (λP l=>⟨r.aF P l,λk=>by have:=o.aF P (o.self P k);have:=T P l;omega⟩) ba (by unfold maxLen;omega) λb4 c5 w5 F5 a3 a6 a7 _=>?_;have A:C.take (e+1)=C.take e++[g]:=by rw[Qw,Q];rfl
   refine⟨_,_,_,rfl,a-(e+1),oM,e+1,F5,aq oM,oM,rfl,?_,?_,?_,(n.then z).new a6 λP l=>.inr (by have:=w P (o.self P l);omega),?_⟩
   ·rw[A]
    intro a2 B;rcases Q6.1 B with M|M
    ·exact v a2 M
    ·simp at M;subst M;exact⟨s,t⟩
   ·rw[A,nk];simp;omega
   ·rw[A,nk];exact a3
   ·intro P l
    have:=n.size;rcases a7 P l with M|M|M
    ·exact w P M
    ·have:=T P M;omega
    ·omega
  ·have y:=wL t
   rw[y]at r⊢;refine⟨_,_,_,_,rfl,an.dI (λ_=>?_) (λk=>Zz k dC)⟩;have a5:C.any eK=true:=List.any_eq_true.2 ⟨g,QZ Q,by unfold eK;simp;omega⟩;rw[show bU C=([],3) by unfold bU;rw[Zx a5]];exact Ok.mk ⟨none,0,0,λ_=>False,rfl,aT.nil R,(n.then p).then S,λ_ u=>u.elim⟩
 ·obtain rfl:e=a:=oM
  rw[Qz oM]at v Z o;have a8:C.any eK=false:=by
   rw[<-Bool.not_eq_true];intro k;obtain⟨g,he,U⟩:=List.any_eq_true.1 k;have:=(v g he).2;unfold eK at U;simp at U;omega
  rw[show bU C=(aG C,0) by unfold bU;rw[Zq (by simp[a8])]];exact Ok.mk ⟨_,_,_,m,rfl,o,n,w⟩
def eR(no:Int)(e:List UInt8)(D:al):Int×al:=
 let P:=cE (ax no)
 let a:=D.create P
 if a.1≠0 then(a.1,a.2)else
 let b:=a.2.append P e
 if b.1≠0 then(b.1,(b.2.delete P).2)else
 let c:=b.2.sync P
 if c.1≠0 then(c.1,(c.2.delete P).2)else
 let d:=bt c.2 [no]
 (d.1,if d.1≠0 then(d.2.delete P).2 else d.2)
def Mp{D:al}{no:Int}(hL:Laid b)(L:aW b k a D f)(R:aN no)(g:Row fz 1 k a4 d c w)(c4:d=none->c=0/\i=0)(b2:∀P,a4 P->f P):
  ZG 116 #[XL a,XH no,.slice d c i] k (Ok (my b k a f (eR no w D))):=by
 have e3:=L.gr.size;have S:∀P,f P->P<k.heap.size:=by obtain⟨a3,f1,f2,T,U⟩:=L;exact U
 refine xJ (PA.mk λx k1 s1 g1=>PA.mk λw2 V s2 g2=>PC.ok (iM (hL.ah ((L.gr.then k1).then V)) R) ?_);rintro _ W ⟨rfl,M⟩;have z3:=M.size;refine⟨_,rfl,PA.mk λw4 X s4 g4=>PS.mk g4 sM λY Z s5 g5=>?_⟩
 let s:XN:=λP=>f P\/(P=k.heap.size\/P=x.heap.size\/P=W.heap.size)
 have b3:ai k Y:=((((k1.then V).then M).then X)).new Z λP g=>.inr oM;have c9:aW b Y a D s:=L.add b3 λP g=>by omega
 let y:World->Int->Prop:=λj m=>j.heap[k.heap.size]? =some (.cells #[XL a] 87 (0,0))/\j.heap[x.heap.size]? =some (.cells #[XH m] 34 (0,0))/\j.heap[W.heap.size]? =some (.cells #[.string (cE (ax no))] 9 (0,0))
 have C5:y Y 0:=⟨Z.get (X.get (M.get (V.get g1 id) id) id) oM,Z.get (X.get (M.get g2 id) id) oM,g5⟩
 have h:∀{j o:World} {m:Int},y j m->ak (dF s) j o->y o m:=λn t=>
  ⟨t.get n.1 λp=>p (.inr (.inl rfl)),t.get n.2.1 λp=>p (.inr (.inr (.inl rfl))),t.get n.2.2 λp=>p (.inr (.inr (.inr rfl)))⟩
 have H:∀{j o:World},ak (dF f) k j->ak (dF s) j o->ak (dF f) k o:=λd P=>d.then (P.mono λP _ g q=>g (.inl q));have e:∀{j:World} {m B:Int} {u:al} {κ:XU},y j m->aW b j a u s->ak (dF f) k j->(∀o,y o B->aW b o a u s->ak (dF f) k o->ak (·=x.heap.size) j o->κ o)->PS j ⟨x.heap.size,0,none⟩ (XH B) κ:=by
  intro j m B u κ n hN t a0;have h1:=ay n.2.1;refine PS.mk n.2.1 sM λo z e4 d0=>a0 o ⟨z.get n.1 oM,d0,z.get n.2.2 oM⟩ ?_ (t.then (z.mono λP _ g q=>by have:=S P q;omega)) z;obtain⟨a3,f1,f2,T,U⟩:=hN;exact⟨a3,f1.af z λP g m=>(T P g).2 (.inr (.inr (.inl m))),f2.new z λP g=>.inr oM,T,λP g=>Qk (U P g) z.size⟩
 have l:∀{I:Int×al} (m:Int) (u:al) (j:World),aW b j a u s->ak (dF f) k j->y j m->I=(m,if m≠0 then(u.delete (cE (ax no))).2 else u)->
   Lv XP (λb4=>∃b5:Int,b4.cell? ⟨x.heap.size,0,none⟩=some (XH b5)/\Ok (my b k a f I) (.returned (XH b5)) b4) (λch j=>Ok (my b k a f I) (.panicked ch) j)
    ([{target:=.fn (.func 170) #[XL x.heap.size,XL k.heap.size,XL W.heap.size],args:= #[]}]:List Deferred) .returning j:=by
  intro I m u j p t n hr;refine Lv.one sM kR (CallsD.mono (sx (R:=λB J=>B= .returned (.tuple #[])/\∃b6:Int,J.cell? ⟨x.heap.size,0,none⟩=some (XH b6)/\Ok (my b k a f I) (.returned (XH b6)) J) ⟨_,ae n.2.1 rfl,an.dI (λr=>⟨_,ae n.1 rfl,_,ae n.2.2 rfl,PC.ok p.delete ?_⟩) (λA=>⟨rfl,_,ae n.2.1 rfl,Ok.mk ?_⟩)⟩) ?_)
  ·rintro _ wb ⟨rfl,d1,kb⟩
   have d2:=h n kb;refine⟨_,rfl,rfl,_,ae d2.2.1 rfl,Ok.mk ?_⟩;rw[hr,Zx r];exact⟨rfl,d1.mono λP g=>.inl g,H t kb⟩
  ·rw[hr,Zq (by simpa using A)]
   exact⟨rfl,p.mono λP g=>.inl g,t⟩
  ·rintro B u' J ⟨rfl,rfl,S⟩
   exact Lv.ret rfl S
 refine⟨_,ae C5.1 rfl,_,ae C5.2.2 rfl,PC.ok c9.create ?_⟩;rintro _ w6 ⟨rfl,b7,k6⟩;have C6:=h C5 k6;have d3:=H (ai.af b3) k6;have hW:eR no w D=if(D.create (cE (ax no))).1≠0 then((D.create (cE (ax no))).1,(D.create (cE (ax no))).2)else
   if((D.create (cE (ax no))).2.append (cE (ax no)) w).1≠0 then(((D.create (cE (ax no))).2.append (cE (ax no)) w).1,(((D.create (cE (ax no))).2.append (cE (ax no)) w).2.delete (cE (ax no))).2)else
   if((((D.create (cE (ax no))).2.append (cE (ax no)) w).2).sync (cE (ax no))).1≠0 then(((((D.create (cE (ax no))).2.append (cE (ax no)) w).2).sync (cE (ax no))).1,(((((D.create (cE (ax no))).2.append (cE (ax no)) w).2).sync (cE (ax no))).2.delete (cE (ax no))).2)else
   ((bt ((((D.create (cE (ax no))).2.append (cE (ax no)) w).2).sync (cE (ax no))).2 [no]).1,if(bt ((((D.create (cE (ax no))).2.append (cE (ax no)) w).2).sync (cE (ax no))).2 [no]).1≠0 then((bt ((((D.create (cE (ax no))).2.append (cE (ax no)) w).2).sync (cE (ax no))).2 [no]).2.delete (cE (ax no))).2 else(bt ((((D.create (cE (ax no))).2.append (cE (ax no)) w).2).sync (cE (ax no))).2 [no]).2):=rfl
 rw[hW];generalize D.create (cE (ax no))=cr at b7⊢;refine⟨_,rfl,e C6 b7 d3 λJ C b8 a5 k7=>⟨_,ae C.2.1 rfl,an.dI (λr=>?_) (λA=>?_)⟩⟩
 ·refine⟨_,ae C.2.1 rfl,e C b8 a5 λw8 C8 N a6 k8=>⟨_,ae C8.2.1 rfl,Ok.mk ?_⟩⟩
  rw[Zx r];exact⟨rfl,N.mono λP g=>.inl g,a6⟩
 rw[Zq (by simpa using A)];have d4:Row fz 1 J a4 d c w:=g.af a5 λP g p=>p (b2 P g);refine⟨_,ae C.1 rfl,_,ae C.2.2 rfl,PC.ok (b8.append d4 c4 λP g=>.inr (.inl (b2 P g))) ?_⟩;rintro _ w8 ⟨rfl,N,k8⟩;have C8:=h C k8;have a6:=H a5 k8;generalize cr.2.append (cE (ax no)) w=ap at N⊢;refine⟨_,rfl,e C8 N a6 λw9 E b9 c0 k9=>⟨_,ae E.2.1 rfl,an.dI (λr=>?_) (λA=>?_)⟩⟩
 ·refine⟨_,ae E.2.1 rfl,e E b9 c0 λc1 a7 O a1 a8=>?_⟩
  rw[Zx r];exact l _ _ c1 O a1 a7 (by rw[Zx r])
 rw[Zq (by simpa using A)];refine⟨_,ae E.1 rfl,_,ae E.2.2 rfl,PC.ok b9.sync ?_⟩;rintro _ c1 ⟨rfl,O,a8⟩;have a7:=h E a8;have a1:=H c0 a8;generalize ap.2.sync (cE (ax no))=sy at O⊢;refine⟨_,rfl,e a7 O a1 λa9 K b1 c2 e5=>⟨_,ae K.2.1 rfl,an.dI (λr=>?_) (λA=>?_)⟩⟩
 ·refine⟨_,ae K.2.1 rfl,e K b1 c2 λF b0 a2 c5 Q=>?_⟩
  rw[Zx r];exact l _ _ F a2 c5 b0 (by rw[Zx r])
 rw[Zq (by simpa using A)];refine⟨_,ae K.1 rfl,PA.mk λF Q e6 c3=>?_⟩;have a2:aW b F a sy.2 (λP=>s P\/P=a9.heap.size):=b1.add Q λP g=>by subst g;exact⟨Q4 _,ay c3⟩
 have c6:Row aM 8 F (·=a9.heap.size) (XM a9.heap.size) 1 [no]:=Row.lit c3 [no] rfl (λc7 q=>by simp at q;subst q;exact R) (by unfold aO;simp);refine PC.ok (a2.bt hL.mW c6 (λc7 q=>by simp at q;subst q;exact R) λP g=>.inr (.inr g)) ?_;rintro _ d5 ⟨rfl,c8,d6⟩;have v:ak (dF s) F d5:=d6.mono λP _ g hy=>g (.inl hy);have b0:y F sy.1:=h K (ai.af Q);have d7:=h b0 v;have d8:=H (c2.ah Q) v;exact⟨_,rfl,e d7 (c8.mono λP g=>.inl g) d8 λd9 e0 e1 e2 e7=>l _ _ d9 e1 e2 e0 rfl⟩
def pD:List Int->al->al
 |[],D=>D
 |no::P,D=>if(D.delete (aC no)).1≠0 then(D.delete (aC no)).2 else pD P (D.delete (aC no)).2
def cG(P:cY)(D:al)(a:List aj)(b:Int):pF:=
 if(bU a).2≠0 then⟨(bU a).2,[],P,D⟩else
 if(eR P.next (bU a).1 D).1≠0 then⟨(eR P.next (bU a).1 D).1,[],P,(eR P.next (bU a).1 D).2⟩else
 bF (pD P.a_ (eR P.next (bU a).1 D).2) b
def Jm(d h:World)(e i:Nat)(j:cY)(b:XN)(a:pF)(f:Value)(c:World):Prop:=
 ∃G,iq c e i G j/\(∀P,G P->d.heap.size<=P/\¬b P)/\ak (dF b) h c/\
  ((a.no≠0/\f= .tuple #[.pointer none,XH a.no]/\aW d c e a.D (λP=>b P\/G P))\/
   (a.no=0/\∃g,f= .tuple #[XL g,XH 0]/\cu d c e g a.V a.D (λP=>b P\/G P)))
def GM{D:al}{U a5:Nat}(z:Laid b)(V:cu b k a c b0 D f)(W:Row h_ 96 k a4 d U C)(b3:∀P,a4 P->P<k.heap.size)(hl:C.length<=20000000):
  ZG 60 #[XL a,XL c,.slice d U a5,XH e] k (Ok (Jm b k a c b0 f (cG b0 D C e))):=by
 obtain⟨G,I,u,A⟩:=id V;have d0:=u.many;refine tK (PC.ok (Jl (z.ah V.gr) W b3 hl) ?_);rintro _ w1 ⟨b4,n1,c1,F1,rfl,J,p,b5⟩;have hz:∀P,(f P\/G P)->P<k.heap.size:=by obtain⟨d1,f1,f2,f3,f4⟩:=I;exact f4
 refine⟨_,_,_,_,rfl,an.dI (λj=>Ok.mk ?_) (λq=>PC.ok (Ol (u.ah p)) ?_)⟩
 ·rw[show cG b0 D C e=⟨(bU C).2,[],b0,D⟩ by unfold cG;rw[Zx j]]
  exact⟨G,u.ah p,A,ai.af p,.inl ⟨j,rfl,I.ah p⟩⟩
 rintro _ _ ⟨rfl,rfl⟩;have b6:aW b w1 a D (λP=>(f P\/G P)\/F1 P):=I.add p λP g=>⟨b5 P g,J.aF P g⟩
 have d2:(bU C).1.length<=13500000000:=by
  unfold bU;split
  ·simp
  ·rename_i b8
   have:∀n∈C,n.Ok/\n.aQ.length<=64:=λn X=>by
    obtain⟨i,hi⟩:=List.mem_iff_getElem?.1 X;obtain⟨P,v,es,-,-,-,-,b4,n1,c1,-,-,b9⟩:=W.el i n hi;refine⟨b9,?_⟩;have:¬eK n=true:=λK=>b8 (List.any_eq_true.2 ⟨n,X,K⟩);unfold eK at this;simp at this;omega
   have:=GN this;show(aG C).length<=_;omega
 refine⟨_,rfl,PC.ok (Mp z b6 u.zU (J.row (bytes:=1) dC ba) (λn=>J.Mo n) λP g=>.inr g) ?_⟩;rintro _ Y ⟨rfl,c0,Z⟩;have L:aW b Y a (eR b0.next (bU C).1 D).2 (λP=>f P\/G P):=c0.mono λP g=>.inl g;have M:=(u.ah p).af Z λP g l=>l (.inl (.inr g));have a6:ak (dF f) k Y:=(ai.af p).then (Z.mono λP _ g m=>g (.inl (.inl m)));have hC:cG b0 D C e=if(eR b0.next (bU C).1 D).1≠0 then⟨(eR b0.next (bU C).1 D).1,[],b0,(eR b0.next (bU C).1 D).2⟩else bF (pD b0.a_ (eR b0.next (bU C).1 D).2) e:=by
  unfold cG;rw[Zq (by simpa using q)]
 rw[hC];generalize eR b0.next (bU C).1 D=w at L⊢;refine⟨_,rfl,an.dI (λj=>Ok.mk ?_) (λq=>?_)⟩
 ·rw[Zx j]
  exact⟨G,M,A,a6,.inl ⟨j,rfl,L⟩⟩
 rw[Zq (by simpa using q)];refine⟨λo=>aW b o a (pD b0.a_ w.2) (λP=>f P\/G P)/\iq o a c G b0/\ak (dF f) k o,PC.ok (EE M) ?_,?_⟩
 ·rintro _ w3 ⟨a3,s,c3,B,rfl,N,O,c2⟩
  have d3:=N.len dC;have Q:aW b w3 a w.2 (λP=>(f P\/G P)\/B P):=L.add O λP g=>⟨c2 P g,N.aF P g⟩
  refine⟨_,_,_,rfl,λa0 a1 o=>∃(h:Nat) (r:al),a1=h/\h<=s/\a0=s-h/\pD b0.a_ w.2=pD (b0.a_.drop h) r/\aW b o a r (λP=>(f P\/G P)\/B P)/\aT aM 3 B o a3 s c3 b0.a_/\iq o a c G b0/\ak (dF f) k o,
   ⟨_,0,w.2,rfl,Qj _,rfl,rfl,Q,N,M.ah O,a6.ah O⟩,?_⟩
  rintro a0 a1 _ w4 ⟨h,r,rfl,hj,rfl,E,x,R,a7,a8⟩;refine an.dec (λd4=>?_) (λd5=>?_)
  ·have c5:Row aM 8 w4 B a3 s b0.a_:=R.row dC ba
   obtain⟨P,v,t,rfl,m,c6,K⟩:=c5.lu (i:=h) oM;refine⟨P,v,rfl,oM,oM,t,K,PC.ok (iM (z.ah x.gr) c6) ?_⟩;rintro _ w5 ⟨rfl,F⟩;refine⟨_,rfl,PC.ok (x.ah F).delete ?_⟩;rintro _ w6 ⟨rfl,S,T⟩;have b7:b0.a_.drop h=t::b0.a_.drop (h+1):=by
    obtain⟨c7,rfl⟩:=Qv.1 m;exact X4 c7
   rw[b7]at E;have H:pD b0.a_ w.2=if(r.delete (cE (ax t))).1≠0 then(r.delete (cE (ax t))).2 else pD (b0.a_.drop (h+1)) (r.delete (cE (ax t))).2:=E
   have a9:=(a7.ah F).af T λP g l=>l (.inl (.inr g));have a2:ak (dF f) k w6:=(a8.ah F).then (T.mono λP _ g m=>g (.inl (.inl m)));have c8:=(R.ah F).af T λP g l=>l (.inr g);generalize r.delete (cE (ax t))=c4 at H S⊢;refine⟨_,rfl,an.dI (λj=>?_) (λq=>?_)⟩
   ·rw[H,Zx j]
    exact⟨S.mono λP g=>.inl g,a9,a2⟩
   ·rw[Zq (by simpa using q)]at H
    exact⟨s-(h+1),oM,h+1,c4.2,aq oM,oM,rfl,H,S,c8,a9,a2⟩
  ·obtain rfl:h=s:=oM
   rw[List.drop_of_length_le oM]at E;rw[E];exact⟨x.mono λP g=>.inl g,a7,a8⟩
 ·rintro _ w3 ⟨Q,b1,b2⟩
  refine PC.ok (GO (size:=e) z Q) ?_;rintro _ w4 (⟨j,rfl,x,y⟩|⟨q,q2,d6,n4,d7,G4,rfl,R,c9,y,-,-,-⟩)
  ·exact⟨_,_,_,_,_,rfl,Ok.mk ⟨G,b1.af y λP g l=>l (.inr g),A,b2.then (y.mono λP _ g m=>g (.inl m)),.inl ⟨j,rfl,x⟩⟩⟩
  ·exact⟨_,_,_,_,_,rfl,Ok.mk ⟨G,b1.af y λP g l=>l (.inr g),A,b2.then (y.mono λP _ g m=>g (.inl m)),.inr ⟨q,q2,rfl,c9.mono λP g=>.inl g⟩⟩⟩
def Ox:Reads XP h_ 55:=λa5 s a6 a7 a cs b t u=>by
 obtain⟨v,n2,_,rfl,w,x,P⟩:=DataW.trod_struct (Tryz.underlying55) t;have y:Tryz.prog.cellsOf 55=10:=kR
 have z:cs.length=10:=w.trans y;have c:Tryz.prog.cellsOf 3=1:=kR
 have d:Tryz.prog.cellsOf 39=2:=kR
 have e:Tryz.prog.cellsOf 27=1:=kR
 match cs,z with
 |[v0,v1,v2,v3,v4,v5,v6,v7,v8,v9],_=>
 match v,x with
 |[y0,y1,A,y3,y4,y5,y6,y7,y8],_=>
  have f:=P 0 _ rfl;have g:=P 1 _ rfl;have h:=P 2 _ rfl;have i:=P 3 _ rfl;have j:=P 4 _ rfl;have k:=P 5 _ rfl;have l:=P 6 _ rfl;have m:=P 7 _ rfl;have n:=P 8 _ rfl;simp only[c,d,e,List.drop_zero,List.drop_succ_cons,Zw,List.take_zero,ZJ,ZZ]at f g h i j k l m n;obtain⟨B,n3,_,a8,a9,C,o⟩:=DataW.trod_struct (Tryz.underlying39) f
  match B,C with
  |[u0,u1],_=>
  have p:=o 0 _ rfl;have q:=o 1 _ rfl;simp only[c,d,e,List.drop_zero,List.drop_succ_cons,Zw,List.take_zero,ZJ,ZZ]at p q;obtain⟨E,F,-,H⟩:=DataW.trod_int Tryz.underlying3 p;obtain⟨z1,I,-,J⟩:=DataW.trod_int Tryz.underlying3 q;obtain⟨K,L,-,M⟩:=DataW.trod_int Tryz.underlying3 g;obtain⟨N,O,-,Q⟩:=DataW.trod_int Tryz.underlying3 i;obtain⟨R,S,-,T⟩:=DataW.trod_int Tryz.underlying3 j;obtain⟨U,V,-,W⟩:=DataW.trod_int Tryz.underlying3 k;obtain⟨X,Y,-,Z⟩:=DataW.trod_int Tryz.underlying3 l;obtain⟨z8,e8,-,w8⟩:=DataW.trod_int Tryz.underlying3 m;obtain⟨z9,e9,-,w9⟩:=DataW.trod_int Tryz.underlying3 n;have a0:iP XP 27 A.1:=by
   intro a1 hq;refine u a1 ?_;have hu:Tryz.prog.underlying 55=_:=Tryz.underlying55;simp only[DataW.weights,hu,QY,List.map_nil,DataW.weightsEach,Q6];right;right;left;exact hq
  obtain⟨a3,n4,c4,l4,e3,-,-,r⟩:=open_row (bytes:=8) Tryz.underlying27 kR dC kR (CU Tryz.underlying3) h a0
  cases F;cases I;cases L;cases e3;cases O;cases S;cases V;cases Y;cases e8;cases e9
  exact⟨⟨E,z1,K,l4,N,R,U,X,z8,z9⟩,a3,n4,c4,rfl,r,aP H,aP J,aP M,λb hx=>by
   obtain⟨a2,hi⟩:=List.mem_iff_getElem?.1 hx;obtain⟨b0,a4,es,-,-,-,-,hr⟩:=r.el a2 b hi;exact hr.2,aP Q,aP T,aP W,aP Z,aP w8,aP w9⟩
end Go.Proofs.YtblabbpipmodgaaGreatDoor
namespace Go.Proofs
open Go.RowKit Go.Maps Go.Sort Go.Shelf
def Tryz.TH(c:Nat):AnyZI.SortsIn Tryz.prog Tryz.xq Fence.wide c:=
 ⟨λaI a P d b e f g=>callsIn_wide.2 (AnyM.slices_Sort_int Tryz.uV aI a P d b e f g),
  λh P b=>callsIn_wide.2 (AnyM.slices_Sort_int_none Tryz.uV h P b)⟩
end Go.Proofs
namespace Go.Proofs.YtblabbpipmodgaaGreatDoor
section
open Go.aw
open Go.RowKit Go.Maps Go.Sort Go.Shelf
def uV(P:List Int):List Int:=P.mergeSort (λa b=>decide (a<=b))
variable{g4:List (Int×Value)}{a c:Nat}{E:Nat×Nat}{g:TypeId}{b:World}
def yu(w:bR b a (Value.int .i64) g4)(H:∀h∈g4,aN h.1)(x:g4.length*8<=aO)(y:b.heap[c]? =some (.cells #[.map (some a)] g E)):
  ZG 239 #[.func (.func 289) #[] #[XL c]] b
   (Ok λp z=>FK b 3 (uV (g4.map (·.1))) p z):=by
 unfold aO at x;obtain⟨e,i,I,m,J,K⟩:=w.at';have L:Tryz.prog.underlying 3=some (.int .i64):=Tryz.underlying3;have M:e.size=g4.length:=by have:=Zj List.length m;simpa using this
 have N:∀P:Int,aN P->(Lit.int .i64 P).wf=true:=λP j=>by unfold aN at j;simp[Lit.wf,IntKind.min,IntKind.max,IntKind.signed,IntKind.bits];omega
 have A:∀d∈e.toList,∃P,d.key=Value.int .i64 P/\aN P:=λd f=>by
  have O:(d.key,d.val)∈g4.map (λh=>(Value.int .i64 h.1,h.2)):=by rw[<-m];exact Xk.2 ⟨d,f,rfl⟩
  obtain⟨h,Q,R⟩:=Xk.1 O;exact⟨h.1,(Prod.mk.inj R).1.symm,H h Q⟩
 have B:∀d∈e.toList,∀P,d.key=Value.int .i64 P->aN P->WideElems.rd XP 3 (λ_=>some ((.nil:DataW Unit),[])) d=some (.int .i64 P,.nil):=λd _ P j k=>by
  simp[WideElems.rd,j,Maps.keyOf_int_mk L (N P k)]
 have S:WideElems.Fit XP 3 (λ_=>some ((.nil:DataW Unit),[])) e i:=by
  refine⟨by unfold maxLen;omega,⟨J,K,?_⟩,λd f=>?_⟩
  ·have:e.toList.map (·.key)=(g4.map (·.1)).map (Value.int .i64):=by
    have:=Zj (List.map (λq:Value×Value=>q.1)) m;simpa[Function.comp_def]using this
   rw[this];exact List.pairwise_map.2 (List.Pairwise.imp (λT=>by simpa using T) w.tidy)
  ·obtain⟨P,j,k⟩:=A d f
   exact⟨_,B d f P j k⟩
 have U:b.ownsMap XP 3 (λ_=>some ((.nil:DataW Unit),[])) a e.size (.map ((e.toList.map (WideElems.rg XP 3 (λ_=>some ((.nil:DataW Unit),[])))).foldr DataW.insert [])):=
  ⟨e,i,I,S,Q4 _,rfl⟩
 have C:Maps.size (.map ((e.toList.map (WideElems.rg XP 3 (λ_=>some ((.nil:DataW Unit),[])))).foldr DataW.insert []))=g4.length:=by
  show(List.foldr DataW.insert [] _).length=_;rw[(WideShapes.sorted_perm _).length_eq];simp[M]
 have V:(intKeys (.map ((e.toList.map (WideElems.rg XP 3 (λ_=>some ((.nil:DataW Unit),[])))).foldr DataW.insert []))).Perm (g4.map (·.1)):=by
  refine(List.Perm.map (λh:Lit×DataW Unit=>Go.intOf h.1) (WideShapes.sorted_perm _)).trans ?_;have:(e.toList.map (WideElems.rg XP 3 (λ_=>some ((.nil:DataW Unit),[])))).map (λh=>Go.intOf h.1)=g4.map (·.1):=by
   have W:e.toList.map (λd=>match d.key with| .int _ P=>P|_=>0)=g4.map (·.1):=by
    have:=Zj (List.map (λq:Value×Value=>match q.1 with| .int _ P=>P|_=>0)) m;simpa[Function.comp_def]using this
   rw[<-W,List.map_map];refine List.map_congr_left λd f=>?_;obtain⟨P,j,k⟩:=A d f;simp[WideElems.rg,B d f P j k,j,Go.intOf]
  rw[this]
 have X:SeqGives Fence.wide 1 XP 289 #[XL c] encZ (λl=>l.Perm (intKeys _)) (Maps.size _) b:=
  AnyZI.keys_gives (ρ:=Tryz.DM) {Tryz.UJ with} Fence.wide _ trivial rfl oM c a e.size _ b (ay y) (ae y rfl) U
 have Y:=AnyZI.sorted_in Tryz.RU Fence.wide 4 trivial trivial trivial trivial rfl oM (Tryz.TH _) (enters_of Tryz.func288 kR rfl) 289 #[XL c] trivial
  (enters_of Tryz.func289 kR rfl) _ _ (by rw[C];unfold maxLen;omega) (by rw[C];exact x) b X
 refine((callsIn_wide (n:=4)).1 Y).mono ?_;rintro d z ⟨p,l,rfl,Z,n,a5,r⟩;have F:l.mergeSort (λP a0=>decide (P<=a0))=uV (g4.map (·.1)):=mergeSort_of_perm_i (Z.trans V);have a6:l.length=(uV (g4.map (·.1))).length:=by rw[<-F];simp
 rw[F]at n;have hv:∃s t,p= .slice s l.length t:=by
  rcases n.2 with⟨rfl,h0⟩|⟨g',u,v,rfl,_⟩
  ·exact⟨none,0,by rw[h0]⟩
  ·exact⟨_,_,rfl⟩
 obtain⟨s,t,rfl⟩:=hv;refine Ok.mk ⟨s,_,t,rfl,⟨ownsRow_base_a n (Qj _)⟩,ak.Gi r,λa1 o=>?_⟩;rcases n.2 with⟨f,_⟩|⟨g',u,v,f,a7,_⟩
 ·simp only[XX]at f
  rw[f.1]at o;cases o
 ·simp only[XX]at f
  rw[f.1]at o;simp only[aI,Q1]at o;omega
end
section
open Go.aw
structure jb where
 cV:Int
 asked:List (Int×Int)
 heard:List (Int×List Int)
 deriving DecidableEq
def VZ(P:Value)(a:Int):Prop:=P= XH a
def Nt(e:World)(f:XN)(g:Value)(b:List Int):Prop:=
 ∃P a c,g= .slice P a c/\Own e 3 1 P a c (ints b)/\a*8<=aO/\(∀h∈b,aN h)/\∀d,aI P=some d->f d
def Nt.af{S c F':XN}{b f:World}{g:Value}{h:List Int}(d:Nt b c g h)(m:ak S b f)(n:∀P,c P->P<b.heap.size->(∃i,b.heap[P]? =some i/\∀j k,i≠.map j k)->¬S P)(o:∀P,c P->F' P):Nt f F' g h:=by
 obtain⟨p,q,r,rfl,e,a,s,l⟩:=d;refine⟨p,q,r,rfl,e.af m (dh.2 λP a=>?_),a,s,λP a=>o P (l P a)⟩;refine n P (l P a) (e.lt a) ?_;rcases e.cases with⟨rfl,_⟩|⟨v,t,rfl,u,_⟩
 ·cases a
 ·simp only[aI,Q1]at a
  subst a;exact⟨_,u,λj k d=>by cases d⟩
structure dQ (w:World) (p:Nat) (F:XN) (T:jb):Prop where
 body:∃ra rh la lh,w.heap[p]? =some (.cells #[XH T.cV,.map (some ra),.map (some rh)] 150 (0,0))/\bR w ra (Value.int .i64) la/\bR w rh (Value.int .i64) lh/\
  e_ VZ la T.asked/\e_ (Nt w F) lh T.heard/\F ra/\F rh/\ra≠rh
 self:F p
 aF:∀b,F b->b<w.heap.size
 Is:Tidy T.asked
 rF:∀q∈T.asked,aN q.1
variable{K:Bool}{e q:Int}{h3:List (Int×List Int)}{g4:List (Int×Value)}{b1 t:List Int}{a3 e5:List PanicEntry->XU}{C:List aj}{c4:List c_}{F a c i n:Nat}{f:XN}{d r:ZH}{h:Program}{L:Prop}{j:Type}{g o:TypeId}{u:Value}{l s:XR}{b k:World}{J:aR}{d1:aY}{M m:aj}{A:au}{b0:cY}{b4:jb}{d2:kv}
def dQ.af{S f:XN}(P:dQ b a f b4)(d:ak S b k)(e:∀c,f c->¬S c):dQ k a f b4:=by
 obtain⟨j,l,m,n,o,p,q,r,s,h,i,t⟩:=P.body;exact⟨⟨j,l,m,n,d.get o (e _ P.self),p.af d (e _ h),q.af d (e _ i),r,s.mono λv w u=>u.af d (λc g _ _=>e c g) (λ_ P=>P),h,i,t⟩,
  P.self,λc g=>Qk (P.aF c g) d.size,P.Is,P.rF⟩
def dQ.ah(P:dQ b a f b4)(c:ai b k):dQ k a f b4:=P.af c λ_ _ P=>P
def kI:ic XP 3 (Value.int .i64):=TU Tryz.underlying3
def mA:lZ XP 147 3 3 (XH 0):=⟨kR,kR⟩
def mH:lZ XP 148 3 27 (.slice none 0 0):=⟨kR,kR⟩
def HU:ZG 37 #[XH e] b
  (Ok λi d=>∃f g,i= XL f/\dQ d f g ⟨e,[],[]⟩/\ai b d/\∀P,g P->b.heap.size<=P):=by
 refine BM (PA.mk λj k q l=>PA.mk λm h r n=>PA.mk λo a s p=>Ok.mk ⟨m.heap.size,λP=>b.heap.size<=P/\P<o.heap.size,rfl,
  ⟨⟨b.heap.size,j.heap.size,[],[],p,bR.new (a.get (h.get l id) id),bR.new (a.get n id),trivial,trivial,oM,oM,oM⟩,oM,λP c=>c.2,by simp[Tidy],sM⟩,
  (k.ah h).ah a,λP c=>c.1⟩)
def H_(P:dQ b a f b4)(t:aN e):
  ZG 111 #[XL a,XH e,XH q] b
   (Ok λo j=>o= .tuple #[]/\dQ j a f {b4 with asked:=aK b4.asked e q}/\ak f b j):=by
 obtain⟨c,u,K,v,k,p,w,x,y,r,z,s⟩:=P.body;have A:∃d g,b.heap[c]? =some (.map d g):=by obtain⟨d,g,P,_⟩:=p.at';exact⟨d,g,P⟩
 obtain⟨d,g,l⟩:=A;have B:a≠c:=by rintro rfl;rw[k]at l;cases l
 refine oz ⟨a,0,rfl,some c,ae k rfl,iy mA kI p λj C h E=>Ok.mk ⟨rfl,⟨⟨c,u,_,v,h.get k B,C,w.af h (Ne.symm s),e_.aK (R:=VZ) rfl x,?_,r,z,s⟩,P.self,?_,P.Is.aK _ _,?_⟩,h.mono ?_⟩⟩
 ·refine y.mono λo L F=>F.af h (λm _ _ i=>?_) (λ_ P=>P)
  rintro rfl;obtain⟨M,i,H⟩:=i;rw[l]at i;cases i;exact H _ _ rfl
 ·intro m I;rw[E];exact P.aF m I
 ·intro J n
  rcases eW n with rfl|n
  ·exact t
  ·exact P.rF J n
 ·rintro m _ rfl;exact r
def jb.all(a:jb)(P:Int)(b:List Int):List Int:=jx ((az a.heard P).getD []) b
def FI(a P:List Int):Bool:=qo a P==0||qo a P==2
def jb.ends(b:jb)(P:Int)(c a:List Int):Bool:=(az b.asked P).isSome&&FI (b.all P c) a
def jb.yt(a:jb)(P:Int)(c b:List Int):jb:=
 {a with heard:=aK a.heard P (a.all P c),asked:=if a.ends P c b then bK a.asked P else a.asked}
def Bf(b:∀c∈t,aN c)(P:Int):aN (fr t P):=by
 unfold fr;split
 ·unfold aN;omega
 ·by_cases a:P.toNat<t.length
  ·have:=b t[P.toNat] (XY a)
   simp only[List.getD,Qq a,Option.getD_some];unfold aN at*;omega
  ·have:t[P.toNat]? =none:=by simp;omega
   simp only[List.getD,this,Option.getD_none];unfold aN;omega
def DD(b:∀P∈t,aN P)(c:∀P∈b1,aN P):∀P∈jx t b1,aN P:=by
 intro P d;obtain⟨a,_,rfl⟩:=Xk.1 d;have e:=Bf b a;have f:=Bf c a;unfold aN at*;omega
def FJ(P a:List Int):(jx P a).length=max P.length a.length:=rD _ _ _
def dQ.RO(j:e_ (Nt b f) g4 h3)(P:Int):
  ∃a c d,(az g4 P).getD (.slice none 0 0)= .slice a c d/\Ints b a c ((az h3 P).getD [])/\c*8<=aO/\∀h,aI a=some h->f h:=by
 rcases j.az P with⟨e,g⟩|⟨n,o,e,g,a,c,d,rfl,k,i,l,m⟩
 ·rw[e,g];exact⟨none,0,0,rfl,Ints.nil b,by simp[aO],by simp[aI]⟩
 ·rw[e,g];exact⟨a,c,d,rfl,k.ints i l,i,m⟩
def HQ(P:dQ b a f b4)(L:Ints b d c t)(hy:Ints b r i b1)(W:b1≠[]->nV f r):
  ZG 47 #[XL a,XH e,.slice d c n,.slice r i F] b
   (Ok λs q=>∃F',s= .bool (b4.ends e t b1)/\dQ q a F' (b4.yt e t b1)/\cK f b F' q):=by
 obtain⟨p,v,E,lh,H,y,X,M,h5,Y,N,O⟩:=P.body;obtain⟨l,m,Q⟩:∃l m,b.heap[v]? =some (.map l m):=by obtain⟨l,m,P,_⟩:=X.at';exact⟨l,m,P⟩
 obtain⟨c9,d0,a6⟩:∃l m,b.heap[p]? =some (.map l m):=by obtain⟨l,m,P,_⟩:=y.at';exact⟨l,m,P⟩
 have b7:a≠v:=by rintro rfl;rw[H]at Q;cases Q
 have b8:a≠p:=by rintro rfl;rw[H]at a6;cases a6
 obtain⟨ha,hn,hc,hg,R,hB,hF⟩:=dQ.RO h5 e;refine oA ⟨a,0,rfl,some v,ae H rfl,yA mH kI X ⟨ha,hn,hc,hg,PC.ok (zj R L) ?_⟩⟩;rintro _ w1 ⟨w,z,S,rfl,Z,u,a7⟩;have b9:z=(b4.all e t).length:=by have:=Z.length;rw[iI,Nat.mul_one]at this;exact this.symm
 have a8:z*8<=aO:=by
  rw[b9];unfold jb.all;rw[FJ];have:=R.len;have:=R.dB;have:=L.len;have:=L.dB;unfold aO at*;omega
 have a9:∀c0∈b4.all e t,aN c0:=DD R.IL L.IL;refine⟨w,z,S,rfl,a,0,rfl,some v,ae (u.get H id) rfl,iy mH kI (X.af u id) λj b0 A c1=>?_⟩;have I:aI w≠some v:=λk=>by have:=a7 _ k;have:=ay Q;omega
 have b2:Own j 3 1 w z S (ints (b4.all e t)):=Z.af A (dh.2 λr W=>by rintro rfl;exact I W);have c2:Ints j r i b1:=(hy.ah u).Gj A λc3 a0 hq=>by rintro rfl;exact W c3 a0 hq N
 refine PC.ok (LN (b2.ints a8 a9) c2) ?_;rintro _ _ ⟨rfl,rfl⟩;have T:j.heap[a]? =some (.cells #[XH b4.cV,.map (some p),.map (some v)] 150 (0,0)):=A.get (u.get H id) b7;have U:bR j p (Value.int .i64) E:=(y.af u id).af A O;refine⟨_,rfl,?_⟩
 let F':XN:=λg=>f g\/(b.heap.size<=g/\g<w1.heap.size)
 have a1:cK f b F' j:=⟨(u.af (S:=f)).trans A (λ_ _ P=>P) (by rintro g _ rfl;exact N),λg o=>o.imp id (·.1)⟩
 have b3:e_ (Nt j F') (aK lh e (.slice w z S)) (aK b4.heard e (b4.all e t)):=by
  refine e_.aK ⟨w,z,S,rfl,b2,a8,a9,λg o=>.inr ⟨a7 g o,Z.lt o⟩⟩ (h5.mono λs ys J=>?_);refine(J.af u (F':=f) (λ_ _ _ _ P=>P) (λ_ P=>P)).af A (λg _ _ h=>?_) (λ_ P=>.inl P);rintro rfl;obtain⟨c4,h,I⟩:=h;rw[u.get Q id]at h;cases h;exact I _ _ rfl
 have b5:∀g,F' g->g<j.heap.size:=λg o=>by
  rw[c1];rcases o with o|o
  ·exact Qk (P.aF g o) u.size
  ·exact o.2
 have c5:dQ j a F' {b4 with heard:=aK b4.heard e (b4.all e t)}:=
  ⟨⟨p,v,E,_,T,U,b0,M,b3,.inl Y,.inl N,O⟩,.inl P.self,b5,P.Is,P.rF⟩
 have a2:(az E e).isSome=(az b4.asked e).isSome:=by
  rcases M.az e with⟨B,V⟩|⟨s,b6,B,V,_⟩<;>rw[B,V]<;>rfl
 have c6:∃g:Int,(az E e).getD (XH 0)= XH g:=by
  rcases M.az e with⟨B,V⟩|⟨s,b6,B,V,J⟩
  ·rw[B];exact⟨0,rfl⟩
  ·rw[B];exact⟨b6,J⟩
 obtain⟨k0,c7⟩:=c6;have no:b4.ends e t b1=false->Ok (λs q=>∃F',s= .bool (b4.ends e t b1)/\dQ q a F' (b4.yt e t b1)/\cK f b F' q) (.returned (.bool false)) j:=λk=>
  Ok.mk ⟨F',by rw[k],by unfold jb.yt;rw[k];exact c5,a1⟩
 have a3:∀x,b4.ends e t b1=true->bR x p (Value.int .i64) (bK E e)->ak (·=p) j x->x.heap.size=j.heap.size->
   Ok (λs q=>∃F',s= .bool (b4.ends e t b1)/\dQ q a F' (b4.yt e t b1)/\cK f b F' q) (.returned (.bool true)) x:=λx k hm C a5=>by
  obtain⟨d1,d2,c8⟩:∃l m,j.heap[p]? =some (.map l m):=by obtain⟨l,m,P,_⟩:=U.at';exact⟨l,m,P⟩
  refine Ok.mk ⟨F',by rw[k],?_,a1.af.trans C (λ_ _ P=>P) (by rintro g _ rfl;exact Y),a1.new⟩;unfold jb.yt;rw[k];refine⟨⟨p,v,_,_,C.get T b8,hm,b0.af C (Ne.symm O),M.bK,?_,.inl Y,.inl N,O⟩,.inl P.self,λg o=>by rw[a5];exact b5 g o,P.Is.bK e,λa0 hq=>P.rF a0 (fN hq)⟩;refine b3.mono λs ys J=>J.af C (λg _ _ h=>?_) (λ_ P=>P);rintro rfl;obtain⟨c4,h,I⟩:=h;rw[c8]at h;cases h;exact I _ _ rfl
 refine⟨λq=>j=q/\b4.ends e t b1=true,⟨a,0,rfl,some p,ae T rfl,l_ mA kI U ?_⟩,?_⟩
 rotate_left
 ·rintro _ _ ⟨rfl,k⟩
  exact⟨a,0,rfl,some p,ae T rfl,Jv mA kI U λx hm C a5=>a3 x k hm C a5⟩
 rw[c7];refine⟨k0,_,rfl,an.mk (λh=>?_) (λh=>an.mk (λh0=>an.mk (λy=>?_) (λy=>?_)) (λh0=>?_))⟩
 ·refine no ?_
  have:(az b4.asked e).isSome=false:=by rw[<-a2];simpa using h
  simp[jb.ends,this]
 ·refine no ?_
  have w:(qo (b4.all e t) b1==0)=false:=by simpa[bne]using h0
  have K:(qo (b4.all e t) b1==2)=false:=by simpa[bne]using y
  simp[jb.ends,FI,w,K]
 ·have k:b4.ends e t b1=true:=by
   have a4:(az b4.asked e).isSome=true:=by rw[<-a2];simpa using h
   have K:(qo (b4.all e t) b1==2)=true:=by simpa[bne]using y
   simp[jb.ends,FI,a4,K]
  exact⟨rfl,k⟩
 ·have k:b4.ends e t b1=true:=by
   have a4:(az b4.asked e).isSome=true:=by rw[<-a2];simpa using h
   have K:(qo (b4.all e t) b1==0)=true:=by simpa[bne]using h0
   simp[jb.ends,FI,a4,K]
  exact⟨rfl,k⟩
def jb.open(P:jb):List Int:=uV (P.asked.map (·.1))
def KC(j:dQ b a f b4)(d:b4.asked.length*8<=aO):
  ZG 168 #[XL a] b (Ok (FK b 3 b4.open)):=by
 obtain⟨k,C,p,E,q,r,F,e,H,I,J,K⟩:=j.body;refine pw ⟨a,0,rfl,some k,ae q rfl,PC.ok (φ:=λs g=>s= .func (.func 289) #[] #[XL b.heap.size]/\ai b g/\g.heap.size=b.heap.size+1/\
  g.heap[b.heap.size]? =some (.cells #[.map (some k)] 147 (0,0))) (ie (PA.mk λt P l h=>Ok.mk ⟨rfl,P,l,h⟩)) ?_⟩
 rintro _ t ⟨rfl,P,l,h⟩;have u:∀c∈p,aN c.1:=by
  intro c v;have:c.1∈b4.asked.map (·.1):=by rw[<-e.keys];exact Xk.2 ⟨c,v,rfl⟩
  obtain⟨w,i,x⟩:=Xk.1 this;rw[<-x];exact j.rF w i
 refine⟨_,rfl,PC.ok (yu (r.ah P) u (by rw[e.length];exact d) h) ?_⟩;rintro _ L ⟨m,n,o,rfl,y,z,A⟩;refine⟨m,n,o,rfl,Ok.mk ⟨m,n,o,rfl,?_,P.ah z,λB d=>by have:=A B d;omega⟩⟩;unfold jb.open;rw[<-e.keys];exact y
def HS(d:dQ b a f b4):
  ZG 63 #[XL a] b (Ok λt l=>t= .tuple #[]/\dQ l a f ⟨b4.cV,[],[]⟩/\ak f b l):=by
 obtain⟨g,h,C,E,e,m,n,F,H,o,p,j⟩:=d.body;obtain⟨P,c,q⟩:∃P c,b.heap[h]? =some (.map P c):=by obtain⟨P,c,d,_⟩:=n.at';exact⟨P,c,d⟩
 obtain⟨I,J,r⟩:∃P c,b.heap[g]? =some (.map P c):=by obtain⟨P,c,d,_⟩:=m.at';exact⟨P,c,d⟩
 have u:a≠h:=by rintro rfl;rw[e]at q;cases q
 have s:a≠g:=by rintro rfl;rw[e]at r;cases r
 refine oB ⟨a,0,rfl,some g,ae e rfl,HD mA m λK v i w=>⟨a,0,rfl,some h,ae (i.get e s) rfl,HD mH (n.af i (Ne.symm j)) λL x k y=>Ok.mk ⟨rfl,
  ⟨⟨g,h,[],[],k.get (i.get e s) u,v.af k j,x,trivial,trivial,o,p,j⟩,d.self,λz A=>by rw[y,w];exact d.aF z A,by simp[Tidy],sM⟩,?_⟩⟩⟩
 exact i.trans k (by rintro B _ rfl;exact o) (by rintro B _ rfl;exact p)
def fD(c a:Int)(b:List Int×List (Int×Int))(P:Int):List Int×List (Int×Int):=
 if IntKind.wrap .i64 (a-(az b.2 P).getD 0)>=c then(b.1++[P],aK b.2 P a)else b
def jb.iv(P:jb)(a:Int)(b:Nat):List Int×List (Int×Int):=(P.open.take b).foldl (fD P.cV a) ([],P.asked)
def jb.due(a:jb)(P:Int):List Int:=(a.iv P a.open.length).1
def jb.PD(P:jb)(a:Int):jb:={P with asked:=(P.iv a P.open.length).2}
def jb.KD(b:jb)(P:Int)(c:b.open[a]? =some e):b.iv P (a+1)=fD b.cV P (b.iv P a) e:=by
 unfold jb.iv;rw[Qw,c];simp
def Nn(h:dQ b a f b4)(c:b4.asked.length*8<=aO):
  ZG 113 #[XL a,XH e] b
   (Ok λJ L=>∃M a4 a5,J= .slice M a4 a5/\Own L 3 1 M a4 a5 (ints (b4.due e))/\dQ L a f (b4.PD e)/\ak f b L/\∀P,aI M=some P->b.heap.size<=P):=by
 refine qS (PC.ok (KC h c) ?_);rintro _ N ⟨A,l,lc,rfl,m,s,hn⟩;have b2:∀g∈b4.open,aN g:=by
  intro g B;have:g∈b4.asked.map (·.1):=(List.mergeSort_perm _ _).mem_iff.1 B;obtain⟨t,u,rfl⟩:=Xk.1 this;exact h.rF t u
 have O:l=b4.open.length:=by have:=m.length;rw[iI,Nat.mul_one]at this;exact this.symm
 have b3:b4.open.length=b4.asked.length:=by simp[jb.open,uV]
 have b5:l*8<=aO:=by rw[O,b3];exact c
 have hL:Ints N A l b4.open:=m.ints b5 b2;have b6:nV f A:=dh.2 λP c Q=>by have:=hn P c;have:=h.aF P Q;omega
 unfold aO at c;have d2:nV f none:=nV.none;refine⟨A,l,lc,rfl,λa6 v w R i n=>∃d:Nat,i=d/\d<=l/\a6=l-d/\Own n 3 1 v w R (ints (b4.iv e d).1)/\w<=d/\dQ n a f {b4 with asked:=(b4.iv e d).2}/\ak f b n/\Ints n A l b4.open/\N.heap.size<=n.heap.size/\
   (∀P,aI v=some P->N.heap.size<=P),⟨_,0,rfl,Qj _,rfl,Own.nil _ _ _,Qj _,h.ah s,s.af,hL,Q4 _,by simp[aI]⟩,?_⟩
 rintro a6 v w R i _ n ⟨d,rfl,d3,rfl,S,d4,C,T,U,b7,p⟩;refine an.mk (λx=>?_) (λx=>?_)
 ·have x:=XV x
  obtain⟨P,V,g,rfl,d5,B,b8,hc⟩:=U.at (i:=(d:Int)) oM oM;rw[Qx]at B;have a7:=b4.KD e B;obtain⟨ra,rh,WE,lh,t1,t2,t3,t4,t5,t6,t7,t8⟩:=C.body;refine⟨P,V,rfl,oM,oM,g,hc,a,0,rfl,some ra,ae t1 rfl,?_⟩;have b9:(az WE g).getD (XH 0)= XH ((az (b4.iv e d).2 g).getD 0):=by
   rcases t4.az g with⟨W,X⟩|⟨J,d6,W,X,Y⟩
   ·rw[W,X];rfl
   ·rw[W,X];exact Y
  refine⟨(az (b4.iv e d).2 g).getD 0,λc0=>?_,a,0,rfl,b4.cV,ae t1 rfl,λw3 hd=>?_⟩
  ·have:=ei mA kI (t2.af (ak.drewN (S:=λ_=>False) n c0) id) g false
   simpa[b9]using this
  have j:ai n w3:=hd.af;refine an.mk (λo=>?_) (λo=>?_)
  ·have o:=XV o
   refine PA.mk λw4 q s4 g4=>?_;refine KP Sy ((S.ah j).ah q) g4 (by unfold aO at*;omega) λa' c' w5 a8 E K=>?_;refine⟨a',w+1,c',rfl,a,0,rfl,?_⟩;have c1:∀P,f P->¬(some P=aI v):=λP Q Z=>by have:=p P Z.symm;have:=h.aF P Q;have:=s.size;omega
   have y:dQ w5 a f {b4 with asked:=(b4.iv e d).2}:=((C.ah j).ah q).af E c1;obtain⟨k,a0,a9,a1,a2,b0,c2,c3,c4,a3,c5,b1⟩:=y.body;refine⟨some k,ae a2 rfl,iy mA kI b0 λw6 c6 r c7=>?_⟩;obtain⟨F,H,I⟩:∃F H,w5.heap[k]? =some (.map F H):=by obtain⟨F,H,h,_⟩:=b0.at';exact⟨F,H,h⟩
   have c8:a≠k:=by rintro rfl;rw[a2]at I;cases I
   have c9:dQ w6 a f {b4 with asked:=aK (b4.iv e d).2 g e}:=by
    refine⟨⟨k,a0,_,a1,r.get a2 c8,c6,c2.af r (Ne.symm b1),e_.aK (R:=VZ) rfl c3,?_,a3,c5,b1⟩,y.self,λP c=>by rw[c7];exact y.aF P c,y.Is.aK _ _,?_⟩
    ·refine c4.mono λJ ys Y=>Y.af r (λt _ _ m=>?_) (λ_ h=>h)
     rintro rfl;obtain⟨d7,m,d0⟩:=m;rw[I]at m;cases m;exact d0 _ _ rfl
    ·intro t u
     rcases eW u with rfl|u
     ·exact b8
     ·exact y.rF t u
   have z:b4.iv e (d+1)=((b4.iv e d).1++[g],aK (b4.iv e d).2 g e):=by rw[a7];unfold fD;rw[Zx o]
   have d1:∀P,aI a'=some P->P≠k:=λP c=>by
    rintro rfl;exact a8.SC I c
   refine⟨_,?_,d+1,?_,oM,rfl,?_,oM,by rw[z];exact c9,?_,?_,?_,?_⟩
   ·omega
   ·rw[wrap_i64 bb];simp
   ·rw[z];exact a8.af r (dh.2 d1)
   ·refine(((T.ah j).ah q).new E ?_).trans r (λ_ _ h=>h) (by rintro t _ rfl;exact a3)
    intro P c;right;have:=p P c.symm;have:=s.size;omega
   ·refine(((U.ah j).ah q).af E (dh.2 λP c Z=>?_)).af r (dh.2 λP c=>?_)
    ·have:=p P Z.symm;have:=m.lt c;omega
    ·rintro rfl;exact dh.1 b6 P c a3
   ·have:=j.size;have:=q.size;have:=E.size;omega
   ·intro P c
    rcases K with K|K
    ·exact p P (K▸c)
    ·rw[K]at c;cases c;have:=j.size;have:=q.size;omega
  ·have o:=Xy o
   have z:b4.iv e (d+1)=b4.iv e d:=by rw[a7];unfold fD;rw[Zq o]
   refine⟨_,?_,d+1,?_,oM,rfl,by rw[z];exact S.ah j,oM,by rw[z];exact C.ah j,T.ah j,U.ah j,Xx b7 j.size,p⟩
   ·omega
   ·rw[wrap_i64 bb];simp
 ·have x:=Xy x
  obtain rfl:d=l:=oM
  refine Ok.mk ⟨v,w,R,rfl,?_,?_,T,λP c=>Xx s.size (p P c)⟩
  ·unfold jb.due;rw[<-O];exact S
  ·unfold jb.PD;rw[<-O];exact C
structure cD where
 br:Int
 pP:Int
 bO:Int
 chunk:Int
 buffer:Int
 cV:Int
 every:Int
 start:Int
 decl:aR
structure bI where
 S:au
 D:al
 log:Option cY
 waits:List aj
 fI:jb
def gX(P:cD)(a:Int):Bool:=
 within P.br 1 64&&within a 0 (P.br-1)&&within P.pP 64 262144&&decide (P.bO>=1)&&decide (P.every>=1)&&within P.chunk 1 32&&within P.buffer 1 256&&within P.cV 1 1048576&&decide (P.start>=0)
section
variable (c:cD) (self:Int)
def fO(a:bI):Int×bI:=
 let P:=bF a.D c.bO
 if P.no≠0 then(P.no,{a with D:=P.D,log:=none,S:=⟨c.br.toNat,[]⟩})
 else(0,{a with D:=P.D,log:=some P.V,S:=(⟨c.br.toNat,[]⟩:au).fq P.out})
def yr:Int×bI:=fO c ⟨⟨c.br.toNat,[]⟩,eY c.pP.toNat,none,[],⟨c.cV,[],[]⟩⟩
def d_(P:au)(a:List aj):au:=(⟨c.br.toNat,[]⟩:au).fq (P.l++a)
def ef(a:bI)(d:List aj):Int×bI:=match a.log with
 |none=>(15,a)
 |some e=>
  let P:=aE e a.D d
  if P.1≠0 then(P.1,{a with log:=some P.2.1,D:=P.2.2})else
  let b:=P.2.2.sync P.2.1.last
  if b.1≠0 then(b.1,{a with log:=some P.2.1,D:=b.2})else
  (0,{a with log:=some P.2.1,D:=b.2,S:=d_ c a.S d})
def dY(P:bI)(d:kv):Int×(Int×Int)×bI:=match P.log with
 |none=>(15,(0,0),P)
 |some _=>
  let a:=qm c.decl P.S (cH c.decl P.S.l) self c.start d
  if a.2.2≠0 then(a.2.2,(0,0),P)else
  if a.2.1 then(let b:=ef c P [a.1];if b.1≠0 then(b.1,(0,0),b.2)else(0,bd a.1,b.2))
  else(0,bd a.1,P)
def gj(a:bI)(P b:Int):List c_×bI:=
 if P<0\/P>=c.br\/P=self then([],a)else([jG a.S self P],{a with fI:={a.fI with asked:=aK a.fI.asked P b}})
def Ia(b:bI)(P:Int):List c_×bI:=((b.fI.due P).map λa=>jG b.S self a,{b with fI:=b.fI.PD P})
def eV(P:Nat):List aj->au->List aj->List aj->au×List aj×List aj
 |[],b,a,c=>(b,a,c)
 |e::d,b,a,c=>
  if(b.add e).1=0 then eV P d (b.add e).2 (a++[e]) c
  else if(b.add e).1=16 then eV P d b a c
  else eV P d b a (eX P c e).2
def eN:List aj->au->List aj->au×List aj
 |[],a,P=>(a,P)
 |e::b,a,P=>if(a.add e).1=0 then eN b (a.add e).2 (P++[e])else eN b (a.add e).2 P
def qp:Nat->au->List aj->List aj->List aj×List aj
 |0,b,P,c=>(P,c)
 |k+1,b,P,c=>
  let a:=bz b c
  if a.1=[]then(P,a.2)else
  let d:=eN a.1 b P
  qp k d.1 d.2 a.2
def gW(a:bI)(b:List aj):List aj×List aj:=
 let P:=eV c.buffer.toNat b (d_ c a.S []) [] a.waits
 qp (P.2.2.length+1) P.1 P.2.1 P.2.2
def jq(P:bI)(b:c_):List c_×Int×bI:=
 let d:=gW c P b.events
 let P:={P with waits:=d.2}
 if d.1=[]then([wv P.S self b.bP],0,P)else
 let a:=ef c P d.1
 if a.1≠0 then([],a.1,{a.2 with waits:=[]})else([wv a.2.S self b.bP],0,a.2)
def bA(P:bI)(a:c_):List c_×Int×bI:=match P.log with
 |none=>([],15,P)
 |some _=>
  let no:=eC a c.br.toNat c.chunk
  if no≠0 then([],no,P)else
  if a.oN≠self then([],1,P)else
  if a.kind=3 then jq c self P a else
  let P:={P with fI:=P.fI.yt a.bP a.vec P.S.vec}
  if a.kind≠4 then(lk P.S self a c.chunk,0,P)else
  let b:=P.S.missing a.vec c.chunk
  if b=[]then([],0,P)else([⟨3,self,a.bP,[],b⟩],0,P)
def Az(P:bI)(a:Int):Int×bI:=fO c {P with D:=zl (P.D.Ah a),waits:=[],fI:=⟨P.fI.cV,[],[]⟩}
def gY(P:bI):Int×bI:=match P.log with
 |none=>(15,P)
 |some b=>
  let a:=cG b P.D P.S.l c.bO
  if a.no≠0 then(a.no,{P with D:=a.D})else(0,{P with D:=a.D,log:=some a.V})
end
structure FQ where
 m:c_
 va:ZH
 vn:Nat
 vc:Nat
 ea:ZH
 en:Nat
 ec:Nat
def Rz:ju FQ:=flat 5 (λP=>bS P.m P.va P.vn P.vc P.ea P.en P.ec) (λ_=>True) (λ_=>rfl) (λb c a=>by
 simp only[bS,Q2,List.not_mem_nil,or_false]at a;rcases a with rfl|rfl|rfl|rfl|rfl<;>rfl)
def FQ.In(a:World)(D:XN)(P:FQ):Prop:=Row aM 8 a D P.va P.vn P.m.vec/\Row h_ 96 a D P.ea P.en P.m.events
def LI:iH XP 56 60 Rz.k 72:=⟨kR,kR,dC⟩
def bh(c:World)(g:List c_)(h:Value)(b:World):Prop:=
 ∃(a:ZH) (e f:Nat) (d:List FQ) (D:XN),h= .slice a e f/\aT Rz 60 (λP=>aI a=some P) b a e f d/\d.map (·.m)=g/\(∀P∈d,P.In b D)/\(∀P,D P->c.heap.size<=P/\P<b.heap.size/\aI a≠some P)/\(∀P,aI a=some P->c.heap.size<=P)/\ai c b
section
variable {w w':World} {p:Nat} {F D:XN} {S:au} {a:ZH} {n c:Nat}
def FQ.In.af{P:FQ}(a:P.In w D)(b:ak f w w')(c:∀P,D P->¬f P):P.In w' D:=⟨a.1.af b c,a.2.af b c⟩
def FQ.In.mono{P:FQ}(a:P.In w D)(b:∀P,D P->f P):P.In w f:=⟨a.1.mono b,a.2.mono b⟩
def dN{P:ju j}{bytes:Nat}(w:World)(D:XN):Row P bytes w D none 0 []:=⟨rfl,sM,λb c a=>by simp at a⟩
def bh.nil(w:World):bh w [] (.slice none 0 0) w:=⟨none,0,0,[],λ_=>False,rfl,(aT.nil w).mono (λa P=>P.elim) (λa P=>(by cases P)),rfl,sM,λa P=>P.elim,λa P=>(by cases P),ak.refl _⟩
def bh.ah(f:bh b c4 u w)(e:ai w w'):bh b c4 u w':=by
 obtain⟨a,n,c,h,D,i,j,k,l,g,m,o⟩:=f;exact⟨a,n,c,h,D,i,j.ah e,k,λP d=>(l P d).af e λ_ _ f=>f,λP d=>⟨(g P d).1,by have:=e.size;have:=(g P d).2.1;omega,(g P d).2.2⟩,m,o.then e⟩
def bh.push(v:bh b c4 (.slice a n c) w)(L:iH h g 60 Rz.k 72){m:c_}{j k p q z:Nat}{M:Nat×Nat}{E:XN}(N:(⟨m,d,j,k,r,p,q⟩:FQ).In w E)(A:∀P,E P->b.heap.size<=P/\P<w.heap.size/\aI a≠some P)(O:w.heap[z]? =some (.cells (bS m d j k r p q).toArray 60 M))(V:c4.length<=1000)(x:∀f i w',bh b (c4++[m]) (.slice f (n+1) i) w'->ak (λP=>aI a=some P) w w'->l (.slice f (n+1) i) w'):
  aH h (Builtin.append_ #[g,g] o #[.slice a n c,.slice (XM z) 1 1]) w l s:=by
 obtain⟨W,X,Y,y,D,Q,R,B,S,C,F,H⟩:=v
 cases Q
 have Z:y.length=c4.length:=by rw[<-B,Q8]
 refine ep (c:=Rz) (x:=⟨m,d,j,k,r,p,q⟩) (D:=λ_=>False) R L O ⟨rfl,trivial⟩ (λP e=>e.elim) ba (by unfold maxLen;omega) λf i w' F' t u T=>?_;have I:∀P,aI f=some P->aI a=some P\/w.heap.size<=P:=λP e=>(T P (t.self P e)).imp id λv=>v.resolve_left id;have a0:=u.size;have z7:=H.size;refine x f i w' ⟨f,n+1,i,y++[⟨m,d,j,k,r,p,q⟩],λP=>D P\/E P,rfl,(show aT Rz 60 (λP=>aI f=some P) w' f (n+1) i (y++[⟨m,d,j,k,r,p,q⟩])from t.alone),by rw[Q3,B];rfl,λP e=>?_,λP e=>?_,λP e=>?_,H.new u λP e=>.inr (F P e)⟩ u
 ·rcases Q6.1 e with e|e
  ·exact((S P e).af u λP e=>(C P e).2.2).mono λP e=>.inl e
  ·simp at e;subst e
   exact(N.af u λP e=>(A P e).2.2).mono λP e=>.inr e
 ·have J:b.heap.size<=P/\P<w.heap.size/\aI a≠some P:=e.elim (C P) (A P)
  exact⟨J.1,oM,λU=>(I P U).elim J.2.2 oM⟩
 ·rcases I P e with K|K
  ·exact F P K
  ·omega
def LP(z:bh b c4 (.slice a n c) w)(O:c4.length<=1000):
  ZG 103 #[XH e,XH q,.slice a n c] w (Ok λA w'=>bh b (c4.map λm=>{m with bP:=e,oN:=q}) A w'):=by
 obtain⟨Q,R,S,d,D,B,s,x,C,o,y,E⟩:=z
 cases B
 have T:d.length=c4.length:=by rw[<-x,Q8]
 have U:=s.len dC;obtain⟨g,j⟩:∃g:FQ->FQ,g=λf=>{f with m:={f.m with bP:=e,oN:=q}}:=⟨_,rfl⟩
 refine Jk ⟨λm h w'=>∃P:Nat,h=P/\P<=n/\m=n-P/\aT Rz 60 (λf=>aI a=some f) w' a n c ((d.take P).map g++d.drop P)/\ak (λf=>aI a=some f) w w',⟨_,0,rfl,Qj _,rfl,by simpa using s,ak.refl _⟩,?_⟩;rintro m _ _ V ⟨P,rfl,W,rfl,t,p⟩;refine an.dec (λX=>?_) (λY=>?_)
 ·have r:d[P]? =some d[P]:=Qq oM
  have k:∃l,a=XM l:=by
   obtain⟨cs,D,F,-⟩:=s.body;rcases F.cases with⟨_,Z,_,_⟩|⟨l,H,rfl,_⟩
   ·omega
   ·exact⟨l,rfl⟩
  obtain⟨l,k⟩:=k;have u:((d.take P).map g++d.drop P)[P]? =some d[P]:=by
   rw[X8 bc];simp[Qy,X2 (show P<=d.length by omega)]
  generalize d[P]=h at r u;have I:P<((d.take P).map g++d.drop P).length:=(Qv.1 u).1;refine⟨l,0,k,oM,oM,?_⟩;rw[Qx];refine aT.set (x':={h with m:={h.m with bP:=e}}) (j:=1) t u dC rfl k λa3 J K a4=>⟨l,0,k,oM,oM,?_⟩
  refine aT.set (x:={h with m:={h.m with bP:=e}}) (x':=g h) (j:=2) J (by rw[List.getElem?_set_self I]) dC (by rw[j];rfl) k λa5 v L a6=>⟨_,?_,P+1,aq oM,oM,rfl,?_,(p.then K).then L⟩
  ·omega
  ·rw[List.set_set]at v
   have M:((d.take P).map g++d.drop P).set P (g h)=(d.take (P+1)).map g++d.drop (P+1):=by
    have N:((d.take P).map g).length=P:=by simp;omega
    rw[Qw,r,Q3,XQ,List.set_append,Zq oM,N,Nat.sub_self,X4 (show P<d.length by omega)];rfl
   rw[M]at v;exact v
 ·obtain rfl:P=n:=oM
  rw[Qz oM,List.drop_eq_nil_of_le oM,List.append_nil]at t;refine Ok.mk ⟨a,P,c,d.map g,D,rfl,t,?_,λf i=>?_,λf i=>⟨(o f i).1,by have:=p.size;have:=(o f i).2.1;omega,(o f i).2.2⟩,y,E.new p λf i=>.inr (y f i)⟩
  ·rw[<-x,List.map_map,List.map_map,j];rfl
  ·obtain⟨h,r,rfl⟩:=Xk.1 i
   have:=(C h r).af p λf i=>(o f i).2.2;rw[j];exact this
end
section
variable {w w':World} {p:Nat} {F D E:XN} {S:au} {m:c_} {va ea:ZH} {vn vc en ec:Nat}
def bh.Gj(e:bh b c4 u w)(c:ai w' b):bh w' c4 u w:=by
 obtain⟨f,g,h,i,D,j,k,l,m,d,n,o⟩:=e;have:=c.size;exact⟨f,g,h,i,D,j,k,l,m,λP a=>⟨by have:=(d P a).1;omega,(d P a).2⟩,λP a=>by have:=n P a;omega,c.then o⟩
def bh.len(P:bh b c4 (.slice d a c) w):a=c4.length:=by
 obtain⟨h,i,j,k,D,e,f,g,-⟩:=P
 cases e
 rw[f.len dC,<-g,Q8]
def bh.sl(P:bh b c4 u w):∃a c d,u= .slice a c d:=by
 obtain⟨f,g,h,i,D,e,-⟩:=P;exact⟨_,_,_,e⟩
def HR(h:cC w p F S)(hl:S.l.length<=20000000)(Z:Row aM 8 w D va vn m.vec):
  ZG 49 #[XL p,XH e,jm m va vn vc ea en ec,XH q] w (Ok (bh w (lk S e m q))):=by
 have hS:=h.1;have hN:=hS.n;refine BR (PA.mk λb n f7 x=>⟨λw'=>b=w'/\(m.kind=1\/m.kind=2),⟨_,ae x rfl,an.dI (λo=>⟨_,ae x rfl,an.dI (λd=>Ok.mk ?_) (λd=>⟨rfl,.inr d⟩)⟩) (λo=>⟨rfl,.inl o⟩)⟩,?_⟩)
 ·unfold lk;rw[Zx ⟨o,d⟩];exact(bh.nil b).Gj n
 rintro _ _ ⟨rfl,hk⟩;have b9:¬(m.kind≠1/\m.kind≠2):=oM
 obtain⟨s,K⟩:∃s,s=S.missing m.vec (max 1 (min q 32)):=⟨_,rfl⟩
 have b4:(if(if 32<q then 32 else q)>1 then(if 32<q then 32 else q)else 1)=max 1 (min q 32):=by split<;>split<;>omega
 obtain⟨f,E⟩:∃f:List c_,f=if 0<s.length then [⟨3,0,0,[],s⟩]else []:=⟨_,rfl⟩
 have g0:f.length<=1:=by rw[E];split<;>simp
 refine⟨λi j k w'=>bh b f (.slice i j k) w'/\ai b w',⟨_,_,_,ae x rfl,?_⟩,?_⟩
 ·refine PC.ok (by rw[b4];exact xm (h.ah n) hl (Z.ah n)) ?_
  rw[<-K];rintro _ g1 ⟨b7,n2,y,G,rfl,L,H,hG⟩;have g2:=L.len dC;have e0:=L.aF;refine⟨_,_,_,rfl,an.dec (λf4=>PA.mk λg3 M g4 e1=>?_) (λhz=>⟨?_,H⟩)⟩
  rotate_left
  ·rw[E,Zq oM]
   exact(bh.nil b).ah H
  have g5:s.length<=20000000:=by
   rw[K];unfold au.missing;rw[Qy];have:=List.length_filter_le (λg:aj=>decide (max 0 (fr m.vec g.origin)<g.seq)) S.l;omega
  refine bh.push (m:=⟨3,0,0,[],s⟩) (E:=G) ((bh.nil b).ah (H.then M)) LI ⟨dN _ _,(L.ah M).row dC ba⟩ (λP a=>⟨by have:=hG P a;omega,by have:=e0 P a;omega,λg=>by cases g⟩) e1 sM λa' c' g6 c0 e2=>⟨_,_,_,rfl,?_,?_⟩
  ·rw[E,Zx oM];exact c0
  ·exact(H.then M).new e2 λP a=>(by cases a)
 rintro I on oc _ e3 ⟨N,O⟩;have a0:=n.then O;have e4:=O.size;refine PC.ok (kO (h.ah a0)) ?_;rintro _ u ⟨a3,n3,c3,G3,rfl,c4,c6,c7⟩;have g7:=a0.size;have c8:=c4.aF;have c9:Row aM 8 u G3 a3 n3 S.vec:=c4.row dC (by rw[S.bN];unfold aO;omega);obtain⟨c,v⟩:∃c:List c_,c=if m.kind=1/\(qo m.vec S.vec=2\/qo m.vec S.vec=3)then [⟨2,0,0,S.vec,[]⟩]else []:=⟨_,rfl⟩
 have g8:c.length<=1:=by rw[v];split<;>simp
 have z:=O.then c6;have Q:∀P,aI I=some P->P<e3.heap.size:=λP a=>by
  obtain⟨a1,n1,t,a2,D,l,d,-⟩:=N
  cases l
  exact d.aF P a
 refine⟨_,_,_,rfl,λi j k w'=>bh b (f++c) (.slice i j k) w'/\w'.heap[w.heap.size]? =some (.cells (bS m va vn vc ea en ec).toArray 60 (0,0))/\ai b w',⟨_,_,_,ae (z.get x id) rfl,PC.ok (LN ((Z.ah (n.then z)).sq) c9.sq) ?_⟩,?_⟩
 ·rintro _ _ ⟨rfl,rfl⟩
  have R:=z.get x id;have a4:=N.ah c6;have r:∀P,aI I=some P->b.heap.size<=P:=λP a=>by
   obtain⟨a1,n1,t,a2,D,l,d,A,h4,h5,T,h7⟩:=N
   cases l
   exact T P a
  have no:c=[]->bh b (f++c) (.slice I on oc) u/\u.heap[w.heap.size]? =some (.cells (bS m va vn vc ea en ec).toArray 60 (0,0))/\ai b u:=λa=>⟨by rw[a,List.append_nil];exact a4,R,z⟩
  have B:∀{ε:XR} {U:ZH->Nat->Nat->XU},c=[⟨2,0,0,S.vec,[]⟩]->(∀i j k w',bh b (f++c) (.slice i j k) w'/\w'.heap[w.heap.size]? =some (.cells (bS m va vn vc ea en ec).toArray 60 (0,0))/\ai b w'->U i j k w')->
    PA u (.cells #[XH 2,XH 0,XH 0,.slice a3 n3 c3,.slice none 0 0] 60) λd0=>aH XP (Builtin.append_ #[56,56] 56 #[.slice I on oc,.slice (XM u.heap.size) 1 1]) d0 (λe5 d1=>∃(a5:ZH) (a6:Nat) (a7:Nat),e5= .slice a5 a6 a7/\U a5 a6 a7 d1) ε:=λ{ε U} a V=>by
   refine PA.mk λd0 J g9 e6=>bh.push (m:=⟨2,0,0,S.vec,[]⟩) (E:=G3) (a4.ah J) LI ⟨c9.ah J,dN _ _⟩ (λP a=>⟨by have:=c7 P a;omega,by have:=c8 P a;omega,λg=>by have:=Q P g;have:=c7 P a;omega⟩) e6 oM λa' c' d1 d2 d3=>⟨_,_,_,rfl,V _ _ _ _ ⟨by rw[a];exact d2,d3.get (J.get R id) λg=>?_,?_⟩⟩
   ·have:=r _ g;omega
   ·exact(z.then J).new d3 λP a=>.inr (r P a)
  refine⟨_,rfl,_,ae R rfl,an.dO (λo=>an.dO (λd=>B (by rw[v,Zx ⟨o,.inl d⟩]) λi j k w' h=>h) (λd=>an.dO (λA=>B (by rw[v,Zx ⟨o,.inr A⟩]) λi j k w' h=>h) (λA=>no (by rw[v,Zq];rintro⟨-,h|h⟩;exact d h;exact A h)))) (λo=>no (by rw[v,Zq λh=>o h.1]))⟩
 rintro e7 h8 h9 _ e8 ⟨C,W,a8⟩;have d4:=n.then a8;have e9:=a8.size;have a9:=C.len;have f6:(f++c).length<=2:=by rw[QX];omega
 have b0:∀{X:List c_},(if(f++c).isEmpty then [wv S e m.bP]else(f++c).map λb5=>{b5 with bP:=e,oN:=m.bP})=X->lk S e m q=X:=λ{X} hq=>by
  rw[<-hq];unfold lk;rw[Zq b9,<-K];rw[E,v];have p1:(decide (qo m.vec S.vec=2\/qo m.vec S.vec=3))=decide (qo m.vec S.vec=2\/qo m.vec S.vec=3):=rfl
  by_cases t:0<s.length<;>by_cases y:m.kind=1/\(qo m.vec S.vec=2\/qo m.vec S.vec=3)
  ·simp[t,y]
  ·simp[t,y]
  ·simp[t,y]
  ·simp[t,y]
 refine an.dO (λh0=>⟨_,ae W rfl,PC.ok (HG (h.ah d4)) ?_⟩) (λh0=>⟨_,ae W rfl,PC.ok (LP C oM) ?_⟩)
 ·have l:f++c=[]:=QW oM
  rintro _ i0 ⟨b8,n5,c5,G5,rfl,d5,d6,d7⟩;have d8:=d5.aF;rw[l]at C;refine⟨_,_,_,_,_,_,_,_,_,rfl,PA.mk λi1 Y i2 f2=>?_⟩;have b1:∀P,aI e7=some P->b.heap.size<=P/\P<e8.heap.size:=λP a=>by
   obtain⟨a1,n1,t,a2,D,l,d,A,h4,h5,T,h7⟩:=C
   cases l
   exact⟨T P a,d.aF P a⟩
  refine bh.push (m:=wv S e m.bP) (E:=G5) (C.ah (d7.then Y)) LI ⟨(d5.ah Y).row dC (by show S.vec.length*8<=aO;rw[S.bN];unfold aO;omega),dN _ _⟩ (λP a=>⟨by have:=d6 P a;have:=d4.size;omega,by have:=d8 P a;omega,λg=>by have:=(b1 P g).2;have:=d6 P a;omega⟩) f2 sM λa' c' i3 d9 f3=>⟨_,_,_,rfl,_,ae (f3.get ((d7.then Y).get W id) λg=>by have:=(b1 _ g).1;omega) rfl,?_⟩
  refine PC.ok (LP d9 sM) ?_;rintro b6 i4 b2;obtain⟨i,j,k,rfl⟩:=b2.sl;refine⟨_,_,_,rfl,Ok.mk ?_⟩;rw[b0 (Zx (by rw[l];rfl))];exact b2.Gj n
 ·rintro b6 i5 b3
  obtain⟨i,j,k,rfl⟩:=b3.sl;refine⟨_,_,_,rfl,Ok.mk ?_⟩;rw[b0 (Zq (by
   intro l;have:f++c=[]:=by simpa using l
   rw[this]at a9;simp at a9;omega))]
  exact b3.Gj n
end
section
variable {w w':World} {D Fs Fv:XN} {s v:Nat} {S:au} {V:aY} {d:aR} {c:kv} {origin start:Int}
def uU(w:World)(P:aj×Bool×Int)(d:Value)(w':World):Prop:=∃b c e G,d= .tuple #[js P.1 b c e,.bool P.2.1,XH P.2.2]/\Row aM 8 w' G b c P.1.aQ/\(∀a,G a->w.heap.size<=a/\a<w'.heap.size)/\ai w w'
def wB(d:aR)(s:au)(v:aY)(origin start:Int)(c:kv):qm d s v origin start c=if iK d c≠0 then(qO,false,iK d c)else
  match s.keyed c.key with
  |some P=>(P,false,0)
  |none=>if¬(c.expect= -1\/c.expect=((v.state c.aX c.agg).getD ⟨0,[]⟩).version)then(qO,false,11)else
   if vo (d.at c.aX) (match v.state c.aX c.agg with|some a=>a.cells|none=>dK (d.at c.aX)) c.field c.op c.arg≠0 then(qO,false,10)else
   ((aV c origin s.vec (max s.top start)).2,decide ((aV c origin s.vec (max s.top start)).1=0),(aV c origin s.vec (max s.top start)).1):=rfl
def Cu{ta pa:ZH}{tn tc pn pc:Nat}(hT:eG w)(hd:bf w D d ta tn pa pn)(hD:∀P,D P->P<w.heap.size)(j0:di d=0)(hs:cC w s Fs S)(j1:S.l.length<=20000000)(hv:cy w v Fv V)(j2:V.decl=d)(o4:start<=9223372036854775807)(o1:S.top<=9223372036854775807):
  ZG 42 #[.agg #[.slice ta tn tc,.slice pa pn pc],XL s,XL v,XH origin,XH start,sk c] w (Ok (uU w (qm d S V origin start c))):=by
 refine xL (PA.mk λw1 k1 s1 g1=>PA.mk λw2 k2 s2 g2=>PA.mk λw3 k3 s3 g3=>?_);have q:=(k1.then k2).then k3;have gd:=k3.get (k2.get g1 id) id;have gc:=k3.get g2 id;have y:∀{z:World} {no:Int},ai w3 z->qm d S V origin start c=(qO,false,no)->xC XP 55 (XL w2.heap.size) (js qO none 0 0) z λt=>ot XP 55 (XL w2.heap.size) t λr=>Ok (uU w (qm d S V origin start c)) (.returned (.tuple #[r,.bool false,XH no])) t:=λ{z no} h4 R=>
  aB (aZ qO none 0 0) (h4.get g3 id) rfl λt k5 s5 g5=>ar (aZ qO none 0 0) g5 (Ok.mk ⟨none,0,0,λ_=>False,by rw[R],by rw[R];exact Row.nil _ _,λP a=>a.elim,(q.then h4).new k5 λP a=>.inr oM⟩)
 refine⟨_,_,_,_,_,_,ae gd rfl,ae gd rfl,ar (CH c) gc (PC.ok (BG (hT.ah q) (hd.ah q) λP a=>by have:=hD P a;omega) ?_)⟩;rintro _ z ⟨rfl,T⟩;refine⟨_,rfl,an.dI (λU=>y T (by rw[wB,Zx U])) (λe5=>⟨_,ae (T.get gc id) rfl,PC.ok (Nu (hs.ah (q.then T)) j1) ?_⟩)⟩;rintro _ t ⟨W,X,Y,G5,rfl,e6,e7,k5⟩;have b6:=T.then k5;have o5:=b6.size;have A:∀{r:aj×Bool×Int},(match S.keyed c.key with
  |some l=>(l,false,0)
  |none=>if¬(c.expect= -1\/c.expect=((V.state c.aX c.agg).getD ⟨0,[]⟩).version)then(qO,false,11)else
   if vo (d.at c.aX) (match V.state c.aX c.agg with|some B=>B.cells|none=>dK (d.at c.aX)) c.field c.op c.arg≠0 then(qO,false,10)else
   ((aV c origin S.vec (max S.top start)).2,decide ((aV c origin S.vec (max S.top start)).1=0),(aV c origin S.vec (max S.top start)).1))=r->qm d S V origin start c=r:=λ{r} hr=>by
  rw[wB,Zq (by simpa using e5)];exact hr
 refine bX (qN _ W X Y) ⟨_,rfl,PA.mk λw6 k6 s6 g6=>aB (aZ _ W X Y) g6 rfl λm k7 s7 g7=>an.mk (λhk=>?_) (λhk=>?_)⟩
 ·obtain⟨l,R⟩:=Option.isSome_iff_exists.1 hk
  rw[R]at e6 g7 A;have b2:ai t m:=k6.new k7 λP a=>.inr oM;refine ar (aZ _ W X Y) g7 (aB (aZ _ W X Y) (b2.get (b6.get g3 id) id) rfl λw8 k8 s8 g8=>ar (aZ _ W X Y) g8 (Ok.mk ⟨W,X,Y,G5,?_,?_,λP a=>?_,?_⟩))
  ·rw[A rfl];rfl
  ·rw[A rfl]
   exact(e6.ah b2).af k8 λP a l=>by have:=e7 P a;have:=q.size;have:=T.size;omega
  ·have:=e7 P a;have:=q.size;have:=T.size;omega
  ·exact((q.then b6).then b2).new k8 λP a=>.inr oM
 have d2:S.keyed c.key=none:=by simpa using hk
 rw[d2]at A;have b2:ai t m:=k6.new k7 λP a=>.inr oM;have L:=b6.then b2;have o6:=L.size;have b7:=q.then L;have e8:ko d c.aX c.field c.op c.arg=0:=by
  have:=e5;unfold iK at this;split at this
  ·simp at this
  ·exact this
 have j3:V.decl.at c.aX=d.at c.aX:=by rw[j2]
 obtain⟨hV,b0,hq⟩:=hv;have a6:(match V.state c.aX c.agg with|some B=>B.cells|none=>dK (d.at c.aX)).length=(d.at c.aX).length:=by
  unfold aY.state
  cases hs:az V.et (c.aX,c.agg)with
  |none=>simp[dK]
  |some s=>rw[<-j3];exact hV.st _ (bW hs)
 obtain⟨c4,t0,t1,o7⟩:=LQ j0 e8 a6;obtain⟨C,e9⟩:∃C:Nat,c.aX=C:=⟨c.aX.toNat,oM⟩
 have j4:d.at c.aX=d.types.getD C []:=by
  unfold aR.at;rw[Zx (bB.2 ⟨t0,oM⟩),e9,Qx]
 obtain⟨tb,oN,es,j5,o8,o2,j6,fa,fn,fc,rfl,b3⟩:=(hd.ah b7).aX.el C d.types[C] sM;have b3:Row oq 48 m D fa fn (d.at c.aX):=by
  rw[j4];have:d.types.getD C []=d.types[C]:=by simp[QQ,show C<d.types.length by omega]
  rw[this];exact b3
 have o9:=(hd.ah b7).aX.len;have c7:=j6 0 dC;have f2:jO.k=1:=rfl;rw[f2,Nat.mul_one]at c7;have j7:=L.get gd id;have f3:=L.get gc id;refine⟨_,_,_,ae j7 rfl,_,ae f3 rfl,tb,oN,j5,t0,oM,fa,fn,fc,by rw[e9,Qx];exact c7,PA.mk λw8 k8 s8 g8=>PS.mk g8 sM λw9 k9 s9 g9=>?_⟩;have Z:ai m w9:=k8.new k9 λP a=>.inr oM;have d3:=Z.get f3 id;have d4:cy w v Fv V:=⟨hV,b0,hq⟩
 refine⟨_,ae d3 rfl,_,ae d3 rfl,PC.ok (mP (d4.ah (b7.then Z))) ?_⟩;rintro _ d5 ⟨ca,cn,cc,j8,rfl,f4,o3,M⟩;have b4:=Z.then M;have f6:=b7.then b4;have p0:=b4.size;obtain⟨E,hX⟩:∃E,E=(match V.state c.aX c.agg with|some B=>B.cells|none=>dK (d.at c.aX)):=⟨_,rfl⟩
 rw[<-hX]at c4 a6 A;refine⟨_,_,_,_,_,rfl,PA.mk λp1 j9 p2 k0=>PS.mk k0 sM λp3 l0 p4 l3=>PS.mk l3 sM λf7 l4 p5 g0=>?_⟩;have a5:ai d5 f7:=(j9.new l0 λP a=>.inr oM).new l4 λP a=>.inr oM;have l5:f7.heap[m.heap.size]? =some (.cells #[.slice fa fn fc] 130 (0,0)):=a5.get (M.get g9 id) id;have c8:=f4.ah a5;refine⟨λw'=>ai d5 w'/\∃ca cn cc G,w'.heap[d5.heap.size]? =some (.cells #[XH ((V.state c.aX c.agg).getD FP).version,.slice ca cn cc] 42 (0,0))/\Row fg 32 w' G ca cn E,?_,?_⟩
 ·refine an.not (an.mk (λl6=>⟨a5,ca,cn,cc,j8,g0,?_⟩) (λl7=>⟨_,_,_,ae l5 rfl,PC.ok (Gx (t:=d.at c.aX) rfl b3.len (by rw[b3.len];omega)) ?_⟩))
  ·obtain⟨B,hx⟩:=Option.isSome_iff_exists.1 l6
   rw[hx]at c8 hX;have b8:E=B.cells:=hX;rw[b8];exact c8.row dC (by show B.cells.length*32<=aO;rw[<-b8,a6];unfold aO;omega)
  ·rintro _ p6 ⟨b1,n6,c6,G6,rfl,l8,d6,l9⟩
   have p7:=d6.size;refine⟨_,_,_,rfl,PS.mk (d6.get g0 id) sM λp8 g4 p9 m0=>⟨(a5.then d6).new g4 λP a=>.inr oM,b1,n6,c6,G6,m0,?_⟩⟩;have hn:V.state c.aX c.agg=none:=by simpa using l7
   rw[hn]at hX;have b8:E=dK (d.at c.aX):=hX;rw[b8];exact(l8.af g4 λP a l=>by have:=l9 P a;omega).row dC (by unfold aO dK;simp;omega)
 rintro _ m1 ⟨m2,q0,q1,q2,G2,h3,h5⟩;refine PA.mk λh8 d7 q3 m3=>?_;have F:=m2.then d7;have m4:=F.size;have c9:=f6.then F;have h9:=d7.get h3 id;have i0:=F.get (M.get d3 id) id;have i1:=F.get (M.get g9 id) id;have i2:=(((L.then Z).then M).then F).get g3 id;have n:∀{z:World} {no:Int},ai h8 z->qm d S V origin start c=(qO,false,no)->xC XP 55 (XL w2.heap.size) (js qO none 0 0) z λt=>ot XP 55 (XL w2.heap.size) t λr=>Ok (uU w (qm d S V origin start c)) (.returned (.tuple #[r,.bool false,XH no])) t:=λ{z no} h4 R=>y (((L.then Z).then M).then (F.then h4)) R;refine⟨λa9 c5 w'=>∃H:Nat,c5=H/\H<=2/\a9=2-H/\ai h8 w'/\(1<=H->c.expect= -1\/c.expect=((V.state c.aX c.agg).getD ⟨0,[]⟩).version)/\(2<=H->vo (d.at c.aX) E c.field c.op c.arg=0),⟨_,0,rfl,oM,rfl,ak.refl _,λh=>oM,λh=>oM⟩,?_⟩;rintro a9 _ _ I ⟨H,rfl,hj,rfl,j,d8,m5⟩;have d0:=j.get h9 id;have a0:=j.get i0 id;have i3:=j.get i1 id;have d1:=j.get m3 id;refine an.dec (λq4=>⟨m1.heap.size,0,rfl,oM,oM,?_⟩) (λq5=>?_)
 ·have m6:H=0\/H=1:=oM
  rcases m6 with rfl|rfl
  ·refine⟨_,ae d1 rfl,_,_,_,rfl,kR,PC.ok (φ:=λv w'=>v= XH (if c.expect= -1\/c.expect=((V.state c.aX c.agg).getD ⟨0,[]⟩).version then 0 else 11)/\I=w') (tM ⟨_,ae a0 rfl,an.dO (λh1=>Ok.mk ⟨by rw[Zx (.inl h1)],rfl⟩) (λh1=>⟨_,ae a0 rfl,_,ae d0 rfl,an.dO (λh2=>Ok.mk ⟨by rw[Zx (.inr h2)],rfl⟩) (λh2=>Ok.mk ⟨by rw[Zq (by rintro(h|h);exact h1 h;exact h2 h)],rfl⟩)⟩)⟩) ?_⟩
   rintro _ _ ⟨rfl,rfl⟩
   by_cases hx:c.expect= -1\/c.expect=((V.state c.aX c.agg).getD ⟨0,[]⟩).version
   ·rw[Zx hx]
    exact⟨_,rfl,an.ff rfl ⟨_,oM,1,rfl,oM,rfl,j,λ_=>hx,λh=>oM⟩⟩
   ·rw[Zq hx]
    exact⟨_,rfl,an.tt rfl (n j (A (by rw[Zx hx])))⟩
  ·refine⟨_,ae d1 rfl,_,_,_,rfl,kR,PC.ok (φ:=λv w'=>v= XH (vo (d.at c.aX) E c.field c.op c.arg)/\ai I w') (tN ⟨_,_,_,ae i3 rfl,_,_,_,ae d0 rfl,_,ae a0 rfl,_,ae a0 rfl,_,ae a0 rfl,PC.ok (Gw c4 ((b3.ah (b4.then F)).ah j) ((h5.ah d7).ah j)) ?_⟩) ?_⟩
   ·rintro _ m7 ⟨rfl,b9⟩
    exact⟨_,rfl,Ok.mk ⟨rfl,b9⟩⟩
   ·rintro _ m7 ⟨rfl,b9⟩
    refine⟨_,rfl,an.dI (λU=>n (j.then b9) (A ?_)) (λh0=>⟨_,oM,2,rfl,oM,rfl,j.then b9,λ_=>d8 oM,λ_=>h0⟩)⟩;have m8:vo (d.at c.aX) E c.field c.op c.arg=10:=by
     rw[Eh]at U⊢;split at U
     ·simp at U
     ·rename_i hq;rw[Zq hq]
    rw[Zq (λh=>h (d8 oM)),Zx U,m8]
 have i4:=A (r:=((aV c origin S.vec (max S.top start)).2,decide ((aV c origin S.vec (max S.top start)).1=0),(aV c origin S.vec (max S.top start)).1)) (by rw[Zq (λh=>h (d8 oM)),Zq (by rw[m5 oM];simp)]);have J:(if start>S.top then start else S.top)=max S.top start:=by split<;>omega
 have c0:(if start>S.top then start else S.top)<=9223372036854775807:=by split<;>omega
 refine⟨λeb eo no w'=>eo=0/\no=(aV c origin S.vec (max S.top start)).1/\ai I w'/\∃a2 a3 a7 G,w'.heap[eb]? =some (.cells (aD (aV c origin S.vec (max S.top start)).2 a2 a3 a7).toArray 55 (0,0))/\Row aM 8 w' G a2 a3 (aV c origin S.vec (max S.top start)).2.aQ/\∀P,G P->I.heap.size<=P/\P<w'.heap.size,?_,?_⟩
 rotate_left
 ·rintro eb _ no _ q6 ⟨rfl,rfl,d9,b,e,f,p,ge,u,g⟩
  have i5:=d9.get (j.get i2 id) id;have zk:=j.size;have q7:=d9.size;have zw:=q.size;refine ar (aZ _ b e f) ge (aB (aZ _ b e f) i5 rfl λq8 i6 q9 m9=>ar (aZ _ b e f) m9 (Ok.mk ⟨b,e,f,p,?_,?_,λP a=>?_,?_⟩))
  ·rw[i4];rfl
  ·rw[i4];exact u.af i6 λP a l=>by have:=g P a;omega
  ·have:=g P a;omega
  ·exact(((c9.then j).then d9)).new i6 λP a=>.inr oM
 ·intro N i7
  have e0:ai I N:=i7.af;have r0:N.heap.size=I.heap.size:=by rw[i7.heap]
  have i8:=e0.get a0 id;have a4:=hs.ah ((c9.then j).then e0);have zk:=j.size;have hn:=hs.1.n;have c1:S.vec.length<=20000000:=by rw[S.bN];omega
  have c2:S.vec.length*8<=aO:=by unfold aO;omega
  have x:∀{wE w6 m:World} {a1:Nat} {b:ZH} {e f:Nat} {p:XN},ai N wE->Row aM 8 wE p b e (aV c origin S.vec (max S.top start)).2.aQ->(∀P,p P->N.heap.size<=P/\P<wE.heap.size/\P≠a1)->ai wE w6->N.heap.size<=a1->ak (λP=>P=a1) w6 m->m.heap.size=w6.heap.size->m.heap[a1]? =some (.cells (aD (aV c origin S.vec (max S.top start)).2 b e f).toArray 55 (0,0))->
    (λ(eb eo:Nat) (no:Int) (w':World)=>eo=0/\no=(aV c origin S.vec (max S.top start)).1/\ai I w'/\∃a2 a3 a7 G,w'.heap[eb]? =some (.cells (aD (aV c origin S.vec (max S.top start)).2 a2 a3 a7).toArray 55 (0,0))/\Row aM 8 w' G a2 a3 (aV c origin S.vec (max S.top start)).2.aQ/\∀P,G P->I.heap.size<=P/\P<w'.heap.size) a1 0 (aV c origin S.vec (max S.top start)).1 m:=λ{wE w6 m a1 b e f p} hE hr hG h6 hg h7 r3 n0=>by
   have z6:=h6.size;exact⟨rfl,rfl,((e0.then hE).then h6).new h7 λP a=>.inr oM,b,e,f,p,n0,(hr.ah h6).af h7 λP a l=>(hG P a).2.2 l,λP a=>by have:=hG P a;omega⟩
  have zc:¬(N.heap.size<=w1.heap.size):=by
   have h1:=((((k3.then L).then Z).then M).then F).size;omega
  refine⟨λP=>N.heap.size<=P,zc,ar (CH c) i8 ⟨PC.ok (kO a4) ?_,PA.mk λr4 c3 r5 n1=>⟨ai.af c3,PC.ok (kO (a4.ah c3)) ?_⟩⟩⟩
  ·rintro _ n2 ⟨av,nv,cv,a8,rfl,b5,k,n3⟩
   have n4:=k.size;refine⟨_,_,_,rfl,ai.af k,PC.ok (FL (a4.ah k)) ?_,PA.mk λn8 K n9 e1=>⟨ai.af K,PC.ok (FL ((a4.ah k).ah K)) ?_⟩⟩
   ·rintro _ _ ⟨rfl,rfl⟩
    refine⟨_,rfl,ak.refl _,?_,?_⟩
    ·rw[J]
     refine PC.ok (iE (b5.row dC c2) (by rw[<-J];exact c0) c1) ?_;rintro _ e2 ⟨b,e,f,p,rfl,u,g,i⟩;have e3:=i.size;exact bX (qN _ b e f) ⟨_,rfl,ai.af i,PA.mk λr6 i9 r7 o0=>⟨ai.af i9,aB (aZ _ b e f) o0 rfl λe4 o O Q=>⟨o.mono λP _ l=>oM,x (k.then i) u (λP a=>⟨by have:=g P a;omega,(g P a).2,by have:=g P a;omega⟩) i9 oM o O Q⟩⟩⟩
    ·refine PA.mk λn8 K n9 e1=>⟨ai.af K,?_⟩
     rw[J];refine PC.ok (iE ((b5.ah K).row dC c2) (by rw[<-J];exact c0) c1) ?_;rintro _ e2 ⟨b,e,f,p,rfl,u,g,i⟩;have e3:=i.size;exact bX (qN _ b e f) ⟨_,rfl,ai.af i,aB (aZ _ b e f) (i.get e1 id) rfl λe4 o O Q=>⟨o.mono λP _ l=>oM,x ((k.then K).then i) u (λP a=>⟨by have:=g P a;omega,(g P a).2,by have:=g P a;omega⟩) (ak.refl _) oM o O Q⟩⟩
   ·rintro _ _ ⟨rfl,rfl⟩
    refine⟨_,rfl,ak.refl _,?_⟩;refine PC.ok (by rw[J];exact iE ((b5.ah K).row dC c2) (by rw[<-J];exact c0) c1) ?_;rintro _ e2 ⟨b,e,f,p,rfl,u,g,i⟩;have e3:=i.size;exact bX (qN _ b e f) ⟨_,rfl,ai.af i,aB (aZ _ b e f) (i.get e1 id) rfl λe4 o O Q=>⟨o.mono λP _ l=>oM,x ((k.then K).then i) u (λP a=>⟨by have:=g P a;omega,(g P a).2,by have:=g P a;omega⟩) (ak.refl _) oM o O Q⟩⟩
  ·rintro _ n2 ⟨av,nv,cv,a8,rfl,b5,k,n3⟩
   have n4:=k.size;refine⟨_,_,_,rfl,ai.af k,PC.ok (FL ((a4.ah c3).ah k)) ?_⟩;rintro _ _ ⟨rfl,rfl⟩;refine⟨_,rfl,ak.refl _,?_⟩;refine PC.ok (by rw[J];exact iE (b5.row dC c2) (by rw[<-J];exact c0) c1) ?_;rintro _ e2 ⟨b,e,f,p,rfl,u,g,i⟩;have e3:=i.size;exact bX (qN _ b e f) ⟨_,rfl,ai.af i,aB (aZ _ b e f) ((k.then i).get n1 id) rfl λe4 o O Q=>⟨o.mono λP _ l=>oM,x ((c3.then k).then i) u (λP a=>⟨by have:=g P a;omega,(g P a).2,by have:=g P a;omega⟩) (ak.refl _) oM o O Q⟩⟩
end
structure iZ where
 ta:ZH
 tn:Nat
 tc:Nat
 pa:ZH
 pn:Nat
 pc:Nat
 dp:Nat
 lp:ZH
 sp:Nat
 bp:Nat
 wp:Nat
 tp:Nat
abbrev iZ.cells(P:iZ)(a:cD)(b:Int):Array Value:= #[XH a.br,XH a.pP,XH a.bO,XH a.chunk,XH a.buffer,XH a.cV,XH a.every,XH a.start,.slice P.ta P.tn P.tc,.slice P.pa P.pn P.pc,XH b,
 XL P.dp,.pointer P.lp,XL P.sp,XL P.bp,XL P.wp,XL P.tp]
def DL(c:World)(G:XN)(d:Nat)(e:ZH)(D:al)(a:Option cY):Prop:=
 ∃b,aU c d b D/\(∀P,b P->G P)/\match a with
  |none=>e=none
  |some f=>f.a_≠[]/\∃g h,e=some ⟨g,0,none⟩/\iq c d g h f/\∀P,h P->G P/\¬b P
def MJ(c:World)(G:XN)(d:Nat)(P:Nat)(e:List aj):Prop:=∃b D,fZ c d b D P e/\(∀a,b a->G a)/\∀a,D a->G a
def kM(d:Nat)(e:Array Value)(a:iZ)(c:cD)(b:bI)(f:List aj):Nat->World->(XN)->Prop
 |0=>λP G=>G d/\P.heap[d]? =some (.cells e 99 (0,0))
 |1=>λP G=>bf P G c.decl a.ta a.tn a.pa a.pn
 |2=>λP G=>DL P G a.dp a.lp b.D b.log
 |3=>λP G=>cC P a.sp G b.S/\b.S.Cl/\b.S.n=c.br.toNat
 |4=>λP G=>dd P a.bp G c.decl c.every.toNat f
 |5=>λP G=>MJ P G a.wp c.buffer.toNat b.waits
 |6=>λP G=>dQ P a.tp G b.fI
 |_=>λ_ _=>True
section
variable {w w' w0:World} {p:Nat} {F G T:XN} {cls:Nat->Nat} {h:iZ} {c:cD} {self:Int} {X:bI} {dp:Nat} {lp:ZH} {D:al} {log:Option cY}
def DL.af(h:DL w G dp lp D log)(b:ak T w w')(c:∀P,G P->¬T P):DL w' G dp lp D log:=by
 obtain⟨g,i,d,e⟩:=h;refine⟨g,i.af b λP a=>c P (d P a),d,?_⟩
 cases log with
 |none=>exact e
 |some o=>
  obtain⟨j,k,l,m,n,f⟩:=e;exact⟨j,k,l,m,n.af b λP a=>c P (f P a).1,f⟩
def bM{i:Array Value}:tu (kM p i h c X C):=by
 intro k w w' G T P b a
 match k,P with
 |0,P=>exact⟨P.1,b.get P.2 (a p P.1)⟩
 |1,P=>exact bf.af P b a
 |2,P=>exact DL.af P b a
 |3,P=>exact⟨cC.af P.1 b a,P.2⟩
 |4,P=>exact dd.af P b a
 |5,P=>obtain⟨j,D,l,f,g⟩:=P;exact⟨j,D,l.af b (λd e=>a d (f d e)) λd e=>a d (g d e),f,g⟩
 |6,P=>exact dQ.af P b a
 |k+7,P=>trivial
structure kY (c:cD) (me:Int):Prop where
 right:gX c me=true
 decl:di c.decl=0
 WH:aN c.bO
 every:aN c.every
 start:aN c.start
structure Env (w0 w:World) (F:XN):Prop where
 mW:eG w0
 laid:Laid w0
 gr:ai w0 w
 aF:∀b,F b->w0.heap.size<=b
def Env.Bz(h:Env w0 w F)(b:cK F w f w'):Env w0 w' f:=⟨h.mW,h.laid,h.gr.new b.af λP a=>.inr (h.aF P a),λP a=>(b.new P a).elim (h.aF P) λc=>by have:=h.gr.size;omega⟩
def Env.ah(h:Env w0 w F)(P:ai w w'):Env w0 w' F:=⟨h.mW,h.laid,h.gr.then P,h.aF⟩
abbrev cI(w:World)(F:XN)(cls:Nat->Nat)(p:Nat)(h:iZ)(c:cD)(self:Int)(X:bI):Prop:=bD w F cls (kM p (h.cells c self) h c X X.S.l)
def bE(w:World)(p:Nat)(F:XN)(c:cD)(self:Int)(X:bI):Prop:=kY c self/\∃h cls,cI w F cls p h c self X
def cI.ah(P:cI w F cls p h c self X)(a:ai w w'):cI w' F cls p h c self X:=bD.ah P bM a
def cI.bl(P:cI w F cls p h c self X):w.heap[p]? =some (.cells (h.cells c self) 99 (0,0)):=(P.at' 0).2
def cI.HO(P:cI w F cls p h c self X):F p/\cls p=0:=(P.at' 0).1
def bE.af(a:bE w p F c self X)(b:ak T w w')(d:∀P,F P->¬T P):bE w' p F c self X:=by
 obtain⟨e,h,cls,f⟩:=a;exact⟨e,h,cls,bD.af f bM b d⟩
def bE.ah(P:bE w p F c self X)(a:ai w w'):bE w' p F c self X:=P.af a λ_ _ h=>h
def bE.aF(a:bE w p F c self X):∀P,F P->P<w.heap.size:=by obtain⟨d,h,cls,b⟩:=a;exact b.aF
def cI.store{f b:Array Value}{d:iZ}(P:bD w F cls (kM p f d c X C))(g:ak (·=p) w w')(h:w'.heap[p]? =some (.cells b 99 (0,0))):bD w' F cls (kM p b d c X C):=by
 refine bD.same P bM (k:=0) (g.mono λi _ a=>by have a:i=p:=a;exact a▸(P.at' 0).1) ⟨(P.at' 0).1,h⟩ λe G j k=>?_;rcases e with _|_|_|_|_|_|_|e<;>first|exact k|exact Zz rfl j
def DL.Nf(h:DL w G dp lp D (some b0))(d:Env w0 w G)(m:∀P,G P->P<w.heap.size):∃c,lp=XM c/\b0.a_≠[]/\cu w0 w dp c b0 D (λP=>P<w.heap.size/\¬G P):=by
 obtain⟨i,j,f,k,c,l,rfl,g,e⟩:=h;refine⟨c,rfl,k,l,⟨i,j,d.gr,λP a=>⟨d.aF P (f P a),λb=>?_⟩,λP a=>?_⟩,g,λP a=>⟨d.aF P (e P a).1,λb=>b.2 (e P a).1⟩⟩
 ·rcases b with b|b
  ·exact b.2 (f P a)
  ·exact(e P b).2 a
 ·rcases a with a|a
  ·exact a.1
  ·exact g.aF P a
def DL.pP(d:DL w G dp lp D log)(b:Env w0 w G):aW w0 w dp D (λP=>P<w.heap.size/\¬G P):=by
 obtain⟨e,f,c,-⟩:=d;exact⟨e,f,b.gr,λP a=>⟨b.aF P (c P a),λg=>g.2 (c P a)⟩,λP a=>a.1⟩
def DL.Fu{Y:XN}(m:cu w0 w' dp a b0 D (λP=>(P<w.heap.size/\¬G P)\/Y P))(n:ak (dF λP=>P<w.heap.size/\¬G P) w w')(o:b0.a_≠[]):∃d,DL w' d dp (XM a) D (some b0)/\cK G w d w'/\(∀P,d P->P<w'.heap.size)/\∀P,d P->¬Y P:=by
 obtain⟨g,⟨h,i,r,e,s⟩,j,k⟩:=m;have f:∀P,¬(P<w.heap.size/\¬G P)->G P\/w.heap.size<=P:=λP b=>by
  rcases Nat.lt_or_ge P w.heap.size with c|c
  ·exact .inl (Classical.byContradiction λp=>b ⟨c,p⟩)
  ·exact .inr c
 refine⟨λP=>h P\/g P,⟨h,i,λP b=>.inl b,o,a,g,rfl,j,λP b=>⟨.inr b,λq=>(e P q).2 (.inr b)⟩⟩,⟨n.mono λP t b=>(f P b).resolve_right oM,λP b=>?_⟩,λP b=>?_,λP b l=>?_⟩
 ·rcases b with b|b
  ·exact f P λc=>(e P b).2 (.inl (.inl c))
  ·exact f P λc=>(k P b).2 (.inl c)
 ·exact b.elim (i.aF P) (j.aF P)
 ·rcases b with b|b
  ·exact(e P b).2 (.inl (.inr l))
  ·exact(k P b).2 (.inr l)
def DL.LF{Y:XN}(h:aW w0 w' dp D (λP=>(P<w.heap.size/\¬G P)\/Y P))(i:ak (dF λP=>P<w.heap.size/\¬G P) w w'):∃c,DL w' c dp none D none/\cK G w c w'/\(∀P,c P->P<w'.heap.size)/\∀P,c P->¬Y P:=by
 obtain⟨d,e,l,f,m⟩:=h;have g:∀P,¬(P<w.heap.size/\¬G P)->G P\/w.heap.size<=P:=λP a=>by
  rcases Nat.lt_or_ge P w.heap.size with b|b
  ·exact .inl (Classical.byContradiction λj=>a ⟨b,j⟩)
  ·exact .inr b
 exact⟨d,⟨d,e,λP a=>a,rfl⟩,⟨i.mono λP n a=>(g P a).resolve_right oM,λP a=>g P λb=>(f P a).2 (.inl b)⟩,λP a=>e.aF P a,λP a k=>(f P a).2 (.inr k)⟩
end
def HW{D:al}(a:b0.a_≠[]):(aJ b0 D).2.1.a_≠[]:=by
 have c:∀P:al,(lO b0 P).2.1.a_≠[]:=by
  intro P;unfold lO;dsimp only;split
  ·exact a
  ·split
   ·exact a
   ·simp
 have b:∀P:al,(bu b0 P).2.1.a_≠[]:=by
  intro P;unfold bu;dsimp only;split
  ·exact a
  ·exact c _
 unfold aJ;dsimp only;split
 ·exact b D
 ·split
  ·exact a
  ·exact b _
def Fz{D:al}{l:List aj}(P:b0.a_≠[]):(aE b0 D l).2.1.a_≠[]:=by
 unfold aE;dsimp only;have a:(if b0.size<=b0.bytes then aJ b0 D else(0,b0,D)).2.1.a_≠[]:=by
  split
  ·exact HW P
  ·exact P
 generalize(if b0.size<=b0.bytes then aJ b0 D else(0,b0,D))=b at a⊢;split
 ·exact P
 split
 ·exact P
 split
 ·exact a
 split
 ·exact a
 ·exact a
def Px(e:Row h_ 96 b f d a C):∀P∈C,P.Ok:=λP g=>by
 obtain⟨c,h,rfl⟩:=List.getElem_of_mem g;obtain⟨j,k,l,-,-,-,-,m,n,o,-,-,i⟩:=e.el c C[c] (Qq h);exact i
def au.HX:∀{l:List aj} {S:au} {P:aj},P∈S.l->P∈(S.fq l).l
 |[],S,P,a=>a
 |e::l,S,P,a=>au.HX (l:=l) (S:=(S.add e).2) (by
  rcases S.gg e with⟨-,b⟩|⟨c,-⟩
  ·rw[b];exact a
  ·rw[c];exact(dj e S.l).mem_iff.2 (QJ _ a))
variable{d3:cD}
def A_(a:A.Cl)(b:A.n=d3.br.toNat)(P:List aj):d_ d3 A P=A.fq P:=by
 unfold d_;rw[au.Of,<-b,a.TS]
section
variable {w w' w0:World} {p:Nat} {F E T:XN} {cls:Nat->Nat} {h:iZ} {c:cD} {self:Int} {X:bI} {evs:List aj} {ea:ZH} {en ec:Nat}
def kY.br(P:kY c self):c.br=(c.br.toNat:Int)/\c.br.toNat<=64/\1<=c.br.toNat:=by
 have:=P.right;unfold gX within at this;simp only[QK,Zk]at this;omega
def HY(s:cI w F cls p h c self X)(b0:kY c self)(hr:Row h_ 96 w E ea en evs)(t:∀P,E P->P<w.heap.size)(hl:X.S.l.length+evs.length<=20000000):
  ZG 93 #[XL p,.slice ea en ec] w (Ok λa0 w'=>∃L d,a0= XL L/\cC w' L d (d_ c X.S evs)/\(∀P,d P->w.heap.size<=P)/\ai w w'):=by
 obtain⟨b1,b2,c5⟩:=b0.br;have fj:=(s.at' 3).1;refine ng ⟨p,0,rfl,_,ae s.bl rfl,?_⟩;rw[b1];refine PC.ok (Ed b2) ?_;rintro _ w7 ⟨u,k,rfl,M,v,l⟩;have g:=cI.ah s l;refine⟨_,rfl,p,0,rfl,_,ae g.bl rfl,PC.ok (qx (fj.ah l) oM) ?_⟩;rintro _ c6 ⟨a2,x,c1,G,rfl,i,y,m⟩;have N:=M.aF;have c7:=i.aF;have z7:=l.size;have c8:=y.size;have O:=l.then y;refine⟨_,_,_,rfl,yB i FV (hr.ah O) (λP a=>⟨by have:=t P a;omega,λz=>by have:=t P a;have:=m P (i.self P z);omega⟩) ba (by unfold maxLen;omega) λa' c' n Q A B b3 _=>⟨_,_,_,rfl,?_⟩⟩;have b4:=A.len dC;have c9:=B.size;rw[QX]at b4;have a3:Row h_ 96 n Q a' (x+en) (X.S.l++evs):=A.row dC (by rw[QX];unfold aO;omega);have R:=A.aF;have S:∀P,Q P->¬k P:=λP a o=>by
  have e:=v P o;have h6:=N P o;rcases b3 P a with g|g|g
  ·have:=m P g;omega
  ·have:=t P g;omega
  ·omega
 have a4:ai w n:=O.new B λP a=>.inr (by have:=m P (i.self P a);omega);have a5:=(M.ah y).af B λP a z=>by have:=N P a;have:=m P (i.self P z);omega
 refine⟨λT C w'=>∃(b:Nat) (d:XN),C=b/\b<=x+en/\T=x+en-b/\cC w' u d ((⟨c.br.toNat,[]⟩:au).fq ((X.S.l++evs).take b))/\(∀P,d P->k P\/n.heap.size<=P)/\ak k n w',⟨_,0,k,rfl,Qj _,rfl,a5,λP a=>.inl a,ak.refl _⟩,?_⟩;rintro T _ _ U ⟨b,d,rfl,hj,rfl,H,q,r⟩;have d0:=r.size;refine an.dec (λd1=>?_) (λd2=>?_)
 ·obtain⟨f,V⟩:∃f,(X.S.l++evs)[b]? =some f:=⟨_,Qq (by rw[QX];omega)⟩
  obtain⟨P,a1,es,ha,d3,d4,b5,I,J,K,rfl,b6,a7⟩:=(a3.af r S).el b f V;refine⟨P,a1,ha,oM,oM,bC (es:=aD f I J K) (k:=10) (aZ _ _ _ _) rfl (λC ht=>by rw[Qx];exact b5 C ht) (PA.mk λd5 b7 d6 b8=>aB (aZ f I J K) b8 rfl λb9 c0 d7 c2=>ar (aZ f I J K) c2 ?_)⟩;have j:ai U b9:=b7.new c0 λP a=>.inr (by have a:P=U.heap.size:=a;omega);have W:=au.lW ((X.S.l++evs).take b) ⟨c.br.toNat,[]⟩;rw[Qy,QX]at W;simp only[ZQ]at W;refine PC.ok (tB (H.ah j) (b6.ah j) (λP a=>⟨by have:=R P a;have:=j.size;omega,λo=>?_⟩) a7 oM) ?_
  ·rcases q P o with e|e
   ·exact S P a e
   ·have:=R P a;omega
  rintro _ c3 ⟨rfl,Y,c4,Z⟩;refine⟨_,rfl,_,oM,b+1,Y,aq oM,oM,rfl,?_,λP a=>?_,(r.ah j).new Z.af λP a=>q P a⟩
  ·rw[Qw,V]
   show cC c3 u Y (au.fq _ ((X.S.l++evs).take b++[f]));rw[au.lX];exact c4
  ·rcases Z.new P a with e|e
   ·exact q P e
   ·have:=j.size;exact .inr oM
 ·rw[Qz (by rw[QX];omega)]at H
  exact Ok.mk ⟨u,d,rfl,H,λP a=>(q P a).elim (v P) λe=>oM,a4.new r λP a=>.inr (v P a)⟩
end
section
variable {w w' w0:World} {p:Nat} {F E T:XN} {cls:Nat->Nat} {h:iZ} {c:cD} {self:Int} {X:bI} {evs lB:List aj} {ea:ZH} {en ec:Nat}
def Env.sub(a:Env w0 w F)(b:∀P,f P->F P):Env w0 w f:=⟨a.mW,a.laid,a.gr,λP c=>a.aF P (b P c)⟩
def Py(P:A.OK)(b:m∈A.l)(c:M∈A.l)(d:bd m=bd M):m=M:=by
 have a:=P.get b;have e:=P.get c;rw[d,e]at a;exact(XJ a).symm
def Be(v:bD w F cls (kM p (h.cells c self) h c X lB))(l:Env w0 w F)(R:∀(x:Nat) (m n:aj),lB[x]? =some m->X.S.l[x]? =some n->bd m=bd n->m=n)(y:X.S.l.length<=20000000){κ:XR}(o:∀w' g a,cI w' g a p h c self X->cK F w g w'->κ (XH 0) w'):
  ∀om,bQ w om->∃q:XN,(∃r z,(XM p:ZH)=some ⟨r,z,none⟩/\(¬q r/\(∃(A:ZH),om.cell? ⟨r,z+14,none⟩=some (.pointer A)/\(∃B C,(XM p:ZH)=some ⟨B,C,none⟩/\(∃(E:ZH),om.cell? ⟨B,C+13,none⟩=some (.pointer E)/\
   PC XP 41 #[.pointer E] om (λS d=>∃(H:ZH) (I:Nat) (J:Nat),S= .slice H I J/\(ak q om d/\PC XP 76 #[.pointer A,.slice H I J] d (λT i=>∃(U:Int),T= XH U/\(ak q d i/\κ (XH 0) i)) a3)) e5))))):=by
 intro om V;have s:ai w om:=V.af;have j:=bD.ah v bM s;have K:=(j.at' 0).2;refine⟨λP=>F P/\cls P=4,p,0,rfl,λW=>?_,_,ae K rfl,p,0,rfl,_,ae K rfl,PC.ok (qx (show cC om h.sp (λP=>F P/\cls P=3) X.S from(j.at' 3).1) y) ?_⟩
 ·have:=W.2
  have Y:=(show(F p/\cls p=0)/\_ from v.at' 0).1.2;rw[Y]at this;cases this
 rintro _ d ⟨a1,a2,cc,G,rfl,t,f,Z⟩;have b5:=f.size;have a6:=j.aF;have L:=bD.ah j bM f;have a8:=t.jN;have a0:dd d h.bp (λP=>F P/\cls P=4) c.decl c.every.toNat lB:=L.at' 4;refine⟨_,_,_,rfl,ai.af f,PC.ok (F_ a0 l.mW ((l.gr.then s).then f) (λP e=>l.aF P e.1) (t.row dC ba) a8 (λP e=>⟨t.aF P e,λhf=>by have:=a6 P hf.1;have:=Z P e;omega⟩) y R) ?_⟩;rintro _ i ⟨k,rfl,G4,M,N⟩;obtain⟨g,a,u,b,-,-⟩:=L.Bz bM (k:=4) (G':=G4) (C2:=kM p (h.cells c self) h c X X.S.l) N M.aF M λO G hj hc=>by
  rcases O with _|_|_|_|_|_|_|O<;>first|exact hc|exact Zz rfl hj
 have Q:ai w d:=s.then f;exact⟨_,rfl,N.af,o i g a u ⟨(ai.af Q).then b.af,λP e=>(b.new P e).imp id λh1=>by have:=Q.size;omega⟩⟩
def HP(x:cI w F cls p h c self X)(c1:kY c self)(y:Env w0 w F){V:cY}(b3:X.log=some V)(Y:Row h_ 96 w E ea en evs)(Z:∀a,E a->a<w.heap.size/\¬(F a/\cls a=2))(hl:X.S.l.length+evs.length<=20000000):
  ZG 43 #[XL p,.slice ea en ec] w (Ok λz w'=>z= XH (ef c X evs).1/\∃A r e,cI w' r e p A c self (ef c X evs).2/\cK F w r w'/\A.wp=h.wp):=by
 obtain⟨d,D,c2,P,j⟩:=X;simp only at b3 hl;subst b3;obtain⟨hS,B,hn⟩:=(show cC w h.sp (λa=>F a/\cls a=3) d/\d.Cl/\d.n=c.br.toNat from x.at' 3)
 have c3:=x.aF;obtain⟨e1,C,H,a0⟩:=DL.Nf (show DL w (λa=>F a/\cls a=2) h.dp h.lp D (some V)from x.at' 2) (y.sub λa b=>b.1) λa b=>c3 a b.1;have c4:=Px Y;have a2:∀a,E a->a<w.heap.size:=λa b=>(Z a b).1;refine mZ ⟨p,0,rfl,_,ae x.bl rfl,?_⟩;rw[C];refine PC.ok (J_ y.laid a0 H Y a2 oM) ?_;rintro _ w7 ⟨rfl,a1,k7⟩;have I:=Fz (D:=D) (l:=evs) H;have s:∀{a3},(if(aE V D evs).1≠0 then((aE V D evs).1,({S:=d,D:=(aE V D evs).2.2,log:=some (aE V D evs).2.1,waits:=P,fI:=j}:bI))else
   if((aE V D evs).2.2.sync (aE V D evs).2.1.last).1≠0 then(((aE V D evs).2.2.sync (aE V D evs).2.1.last).1,{S:=d,D:=((aE V D evs).2.2.sync (aE V D evs).2.1.last).2,log:=some (aE V D evs).2.1,waits:=P,fI:=j})else
   (0,{S:=d_ c d evs,D:=((aE V D evs).2.2.sync (aE V D evs).2.1.last).2,log:=some (aE V D evs).2.1,waits:=P,fI:=j}))=a3->ef c ⟨d,D,some V,P,j⟩ evs=a3:=λ{a3} hq=>hq
 generalize e2:aE V D evs=ap at a1 I s;obtain⟨e3,t,D7⟩:=ap;simp only at a1 I s;obtain⟨G7,J,a4,a5,-⟩:=DL.Fu (Y:=λ_=>False) (a1.mono λa b=>b.elim id False.elim) k7 I;obtain⟨F7,l,K,f,-,-,c5⟩:=x.Bz bM (k:=2) (G':=G7) (C2:=kM p (h.cells c self) h c ⟨d,D7,some t,P,j⟩ d.l) a4 a5 (by rw[<-C]at J;exact J) λm G L M=>by
  rcases m with _|_|_|_|_|_|_|m<;>first|exact M|exact Zz rfl L
 refine⟨_,rfl,an.dI (λa6=>Ok.mk ?_) (λh0=>?_)⟩
 ·rw[s (Zx a6)]
  exact⟨rfl,h,F7,l,K,f,rfl⟩
 simp only at h0;have c6:=y.Bz f;obtain⟨q2,n,-,u⟩:=DL.Nf (show DL w7 (λa=>F7 a/\l a=2) h.dp h.lp D7 (some t)from K.at' 2) (c6.sub λa b=>b.1) λa b=>K.aF a b.1;refine⟨p,0,rfl,_,ae (K.at' 0).2 rfl,?_⟩;rw[n];refine PC.ok (Hw y.laid u I) ?_;rintro _ b4 ⟨rfl,a7,c7⟩;generalize e4:D7.sync t.last=sy at a7 s;obtain⟨s1,S⟩:=sy;simp only at a7 s;obtain⟨a8,o,i,N,-⟩:=DL.Fu (Y:=λ_=>False) (a7.mono λa b=>b.elim id False.elim) c7 I;obtain⟨O,v,g,k,-,a9,T⟩:=K.Bz bM (k:=2) (G':=a8) (C2:=kM p (h.cells c self) h c ⟨d,S,some t,P,j⟩ d.l) i N (by rw[<-n]at o;exact o) λm G L M=>by
  rcases m with _|_|_|_|_|_|_|m<;>first|exact M|exact Zz rfl L
 have b0:=f.trans k;refine⟨_,rfl,an.dI (λa6=>Ok.mk ?_) (λh1=>?_)⟩
 ·rw[s ((Zq (by simpa using h0)).trans (Zx a6))]
  exact⟨rfl,h,O,v,g,b0,rfl⟩
 simp only at h1;have c8:=s ((Zq (by simpa using h0)).trans (Zq (by simpa using h1)));rw[c8];have c9:Row h_ 96 b4 E ea en evs:=by
  refine(Y.af a4.af λa b=>(Z a b).2).af i.af λa b hf=>?_;rcases a4.new a (c5▸hf)with h5|h5
  ·exact(Z a b).2 h5
  ·have:=a2 a b;omega
 refine PC.ok (HY g c1 c9 (λa b=>by have:=a2 a b;have:=b0.af.size;omega) hl) ?_;rintro _ d0 ⟨U,F2,rfl,b5,d1,d2⟩;have d3:(d_ c d evs).n=c.br.toNat:=au.Og _ _;have b1:=A_ B hn evs;have b6:(d_ c d evs).Cl:=by rw[b1];exact au.Cl.fq B c4
 obtain⟨F3,Q,b7,q,d4,-⟩:=g.eE bM (k:=3) (w':=d0) (G':=F2) (C2:=kM p (h.cells c self) {h with sp:=U} c ⟨d_ c d evs,S,some t,P,j⟩ d.l) (ai.af d2) (λa b=>.inr (d1 a b)) b5.aF ⟨b5,b6,d3⟩ λm G L M=>by
  rcases m with _|_|_|_|_|_|_|m<;>first|exact M|exact Zz rfl L
 refine⟨_,rfl,p,0,rfl,PS.mk (b7.at' 0).2 sM λb8 b9 e5 d5=>?_⟩;have d6:bD b8 F3 Q (kM p (({h with sp:=U}:iZ).cells c self) {h with sp:=U} c ⟨d_ c d evs,S,some t,P,j⟩ d.l):=cI.store b7 b9 d5;have d7:cK O b4 F3 b8:=⟨q.af.then (b9.mono λa _ R=>by have R:a=p:=R;rw[R];exact(g.at' 0).1.1),q.new⟩
 have c0:=b0.trans d7;have d8:∀W∈d.l,W∈(d_ c d evs).l:=λW hx=>by rw[b1];exact au.HX hx
 have d9:(d_ c d evs).l.length<=20000000:=by rw[b1];exact Xx (au.lW _ _) hl
 exact Be d6 (y.Bz c0) (λe6 W e7 hx hy R=>Py b6.ok (d8 W (QZ hx)) (QZ hy) R) d9 (κ:=λz w'=>Ok (λz w'=>z= XH 0/\∃A r e,cI w' r e p A c self ⟨d_ c d evs,S,some t,P,j⟩/\cK F w r w'/\A.wp=h.wp) (.returned z) w')
  λw' r e b2 e0=>Ok.mk ⟨rfl,{h with sp:=U},r,e,b2,c0.trans e0,rfl⟩
end
def Bc{D:al}{size:Int}(P:(bF D size).no=0):(bF D size).V.a_≠[]:=by
 revert P
 unfold bF;generalize iD (told D) [] (mJ D size) D=c;unfold lf;split
 ·rename_i b;intro P;exact Zz P b
 split
 ·intro P;exact rQ P
 rename_i a;split
 ·intro _;exact a
 ·intro _;exact a
abbrev wA(P:iZ)(a:cD)(b:Int)(c d e:ZH):Array Value:= #[XH a.br,XH a.pP,XH a.bO,XH a.chunk,XH a.buffer,XH a.cV,XH a.every,XH a.start,.slice P.ta P.tn P.tc,.slice P.pa P.pn P.pc,XH b,
 XL P.dp,.pointer c,.pointer d,.pointer e,XL P.wp,XL P.tp]
def recC(d:Nat)(e:Array Value)(a:iZ)(c:cD)(b:bI)(f:Bool):Nat->World->(XN)->Prop
 |0=>λP G=>G d/\P.heap[d]? =some (.cells e 99 (0,0))
 |1=>λP G=>bf P G c.decl a.ta a.tn a.pa a.pn
 |2=>λP G=>DL P G a.dp a.lp b.D b.log
 |3=>λP G=>f=true->cC P a.sp G b.S/\b.S.Cl/\b.S.n=c.br.toNat
 |5=>λP G=>MJ P G a.wp c.buffer.toNat b.waits
 |6=>λP G=>dQ P a.tp G b.fI
 |_=>λ_ _=>True
section
variable {w w' w0:World} {p:Nat} {F E T:XN} {cls:Nat->Nat} {h:iZ} {c:cD} {self:Int} {X:bI} {evs lB:List aj} {ea:ZH} {en ec:Nat}
def gq{j:Array Value}:tu (recC p j h c X K):=by
 intro k w w' G T P b a
 match k,P with
 |0,P=>exact⟨P.1,b.get P.2 (a p P.1)⟩
 |1,P=>exact bf.af P b a
 |2,P=>exact DL.af P b a
 |3,P=>exact λf=>⟨cC.af (P f).1 b a,(P f).2⟩
 |4,P=>trivial
 |5,P=>obtain⟨l,D,m,g,i⟩:=P;exact⟨l,D,m.af b (λd e=>a d (g d e)) λd e=>a d (i d e),g,i⟩
 |6,P=>exact dQ.af P b a
 |k+7,P=>trivial
def xo{z1 z2 z3:ZH}(T:bD w F cls (recC p (wA h c self z1 z2 z3) h c X false))(L:kY c self)(A:Env w0 w F):
  ZG 38 #[XL p] w (Ok λB w'=>B= XH (fO c X).1/\(fO c X).2.S.l.length<=16777216/\∃U q e,cI w' q e p U c self (fO c X).2/\cK F w q w'):=by
 obtain⟨f7,d1,j4⟩:=L.br;have g0:=T.aF;have V:F p/\cls p=0:=(T.at' 0).1;have i9:1<=c.every:=by
  have:=L.right;unfold gX at this;simp only[QK,Zk]at this;omega
 refine kD λw3 d3=>?_;have W:ai w w3:=d3.af;have M:=bD.ah T gq W;have N:=(M.at' 0).2;refine⟨λ_=>False,p,0,rfl,_,ae N rfl,p,0,rfl,id,_,_,_,_,_,_,ae N rfl,ae N rfl,p,0,rfl,id,_,ae N rfl,?_⟩;rw[f7];refine PC.ok (Ed d1) ?_;rintro _ d2 ⟨f,F2,rfl,Y,d4,C⟩;have a9:=W.then C;have d5:=bD.ah M gq C;refine⟨_,rfl,C,PC.ok (NQ L.decl L.every ((A.mW.ah A.gr).ah a9) (show bf d2 (λP=>F P/\cls P=1) c.decl h.ta h.tn h.pa h.pn from d5.at' 1) λP a=>d5.aF P a.1) ?_⟩;rintro _ g1 ⟨i,F4,rfl,Z,d6,b7⟩;have y3:=W.size;have j5:=C.size;have j6:=b7.size;rw[show(max 1 c.every).toNat=c.every.toNat by congr 1;omega]at Z;have j0:=Y.aF;obtain⟨Fa,d7,E,b0,g2,-⟩:=M.FZ gq (k:=3) (w':=d2) (G':=F2) (C2:=recC p (wA h c self z1 z2 z3) {h with sp:=f} c {X with S:=⟨c.br.toNat,[]⟩} true) (ai.af C) (λP a m=>by have:=d4 P a;have:=g0 P m;omega) Y.aF (λ_=>⟨Y,au.Cl.new d1,rfl⟩) λb G j k=>by
  rcases b with _|_|_|_|_|_|_|b<;>first|exact k|exact Zz rfl j
 obtain⟨u,r,b8,b1,g4,-⟩:=E.FZ gq (k:=4) (w':=g1) (G':=F4) (C2:=kM p (wA h c self z1 z2 z3) {h with sp:=f,bp:=i} c {X with S:=⟨c.br.toNat,[]⟩} []) (ai.af b7) (λP a m=>by have:=d6 P a;have:=E.aF P m;omega) Z.aF Z λb G j k=>by
  rcases b with _|_|_|_|_|_|_|b<;>first|exact k|exact k rfl|exact Zz rfl j
 have e1:∀P,u P->F P\/w.heap.size<=P:=λP a=>by
  rcases g4 P a with l|l
  ·rcases g2 P l.1 with h6|h6
   ·exact .inl h6.1
   ·exact .inr (by have:=d4 P h6;omega)
  ·exact .inr (by have:=d6 P l;omega)
 refine⟨_,rfl,p,0,rfl,PS.mk (b8.at' 0).2 sM λj7 d8 j8 g5=>⟨p,0,rfl,PS.mk g5 sM λb9 d9 j9 g6=>λc0 g7=>?_⟩⟩;have j1:u p/\r p=0:=(b8.at' 0).1;have e0:ai b9 c0:=g7.af;have g8:bD b9 u r (kM p (wA h c self z1 (XM f) (XM i)) {h with sp:=f,bp:=i} c {X with S:=⟨c.br.toNat,[]⟩} []):=cI.store b8 (d8.then d9) g6;have b2:cK F w u b9:=⟨((ai.af a9).ah b7).then ((d8.then d9).mono λP _ g=>by have g:P=p:=g;rw[g];exact V.1),e1⟩
 have H:=bD.ah g8 bM e0;have O:cK F w u c0:=⟨b2.af.ah e0,b2.new⟩
 have e4:=A.Bz O;have e2:=(H.at' 0).2;have g9:=DL.pP (show DL c0 (λP=>u P/\r P=2) h.dp h.lp X.D X.log from H.at' 2) (e4.sub λP a=>a.1);refine⟨p,0,rfl,_,ae e2 rfl,p,0,rfl,_,ae e2 rfl,PC.ok (GO A.laid g9) ?_⟩;have a0:∀{d},(if(bF X.D c.bO).no≠0 then((bF X.D c.bO).no,{X with D:=(bF X.D c.bO).D,log:=none,S:=⟨c.br.toNat,[]⟩})
   else(0,{X with D:=(bF X.D c.bO).D,log:=some (bF X.D c.bO).V,S:=(⟨c.br.toNat,[]⟩:au).fq (bF X.D c.bO).out}))=d->fO c X=d:=λ{d} hq=>hq
 have b3:=Bc (D:=X.D) (size:=c.bO);generalize bF X.D c.bO=d at a0 b3;rintro _ h4 (⟨I,rfl,e8,c2⟩|⟨I,s,e9,a1,cc,G,rfl,c3,h7,c2,hG,hq,j2⟩)
 ·obtain⟨G2,c4,a2,c5,-⟩:=DL.LF (Y:=λ_=>False) (e8.mono λP a=>a.elim id False.elim) c2
  obtain⟨t,Q,v,a3,-,-⟩:=H.Bz bM (k:=2) (G':=G2) (C2:=kM p (wA h c self z1 (XM f) (XM i)) {h with sp:=f,bp:=i,lp:=none} c {X with S:=⟨c.br.toNat,[]⟩,D:=d.D,log:=none} []) a2 c5 (by
    obtain⟨Fd,h1,h2,M⟩:=c4;exact⟨Fd,h1,h2,rfl⟩) λb G j k=>by
   rcases b with _|_|_|_|_|_|_|b<;>first|exact k|exact Zz rfl j
  refine⟨_,_,_,_,_,rfl,p,0,rfl,PS.mk (v.at' 0).2 sM λx y e3 c6=>an.dI (λ_=>Ok.mk ?_) (λh0=>Zz h0 I)⟩;rw[a0 (Zx I)];refine⟨rfl,Qj _,{h with sp:=f,bp:=i,lp:=none},t,Q,cI.store v y c6,?_⟩;have J:=O.trans a3;exact⟨J.af.then (y.mono λP _ g=>by have g:P=p:=g;rw[g];exact V.1),J.new⟩
 ·obtain⟨G2,c4,a2,c5,hY⟩:=DL.Fu h7 c2 (b3 I)
  obtain⟨t,Q,v,a3,h8,-⟩:=H.Bz bM (k:=2) (G':=G2) (C2:=kM p (wA h c self z1 (XM f) (XM i)) {h with sp:=f,bp:=i,lp:=XM s} c {X with S:=⟨c.br.toNat,[]⟩,D:=d.D,log:=some d.V} []) a2 c5 c4 λb G j k=>by
   rcases b with _|_|_|_|_|_|_|b<;>first|exact k|exact Zz rfl j
  refine⟨_,_,_,_,_,rfl,p,0,rfl,PS.mk (v.at' 0).2 sM λx y e3 c6=>an.dI (λh0=>Zz rfl h0) (λ_=>?_)⟩;have f0:bD x t Q (kM p (({h with sp:=f,bp:=i,lp:=XM s}:iZ).cells c self) {h with sp:=f,bp:=i,lp:=XM s} c {X with S:=⟨c.br.toNat,[]⟩,D:=d.D,log:=some d.V} []):=cI.store v y c6;have J:=O.trans a3;have b4:cK F w t x:=⟨J.af.then (y.mono λP _ g=>by have g:P=p:=g;rw[g];exact V.1),J.new⟩
  have j3:=O.af.size;have c7:∀P,G P->¬t P:=λP a m=>by
   rcases h8 P m with l|l
   ·have:=H.aF P l.1;have:=hG P a;omega
   ·exact hY P l a
  have h9:∀P,G P->P≠p:=λP a g=>c7 P a (g▸(v.at' 0).1.1);have b5:=c3.aF;have k0:=c3.len dC;have b6:Row h_ 96 x G e9 a1 d.out:=pK.row (((c3.af y λP a g=>h9 P a g)).row dC ba);have k1:x.heap.size=h4.heap.size:=e3;rw[a0 (Zq (by simpa using I))];have f9:=Px b6;refine⟨λc1 a4 w'=>∃(b:Nat) (R:XN) (e5:Nat->Nat),a4=b/\b<=a1/\c1=a1-b/\bD w' R e5 (kM p (({h with sp:=f,bp:=i,lp:=XM s}:iZ).cells c self) {h with sp:=f,bp:=i,lp:=XM s} c {X with S:=(⟨c.br.toNat,[]⟩:au).fq (d.out.take b),D:=d.D,log:=some d.V} [])/\cK t x R w',
   ⟨_,0,t,Q,rfl,Qj _,rfl,f0,cK.refl _ _⟩,?_⟩
  rintro c1 _ _ e6 ⟨b,R,e5,rfl,j,rfl,c8,z⟩;have i0:∀P,G P->¬R P:=λP a m=>by
   rcases z.new P m with l|l
   ·exact c7 P a l
   ·have:=b5 P a;omega
  have c9:=au.lW (d.out.take b) ⟨c.br.toNat,[]⟩;rw[Qy]at c9;simp only[ZQ]at c9;refine an.dec (λk2=>?_) (λk4=>?_)
  ·obtain⟨n,S⟩:∃n,d.out[b]? =some n:=⟨_,Qq oM⟩
   obtain⟨P,f1,es,ha,k5,k6,i1,xa,xn,xc,rfl,i2,d0⟩:=(b6.af z.af c7).el b n S;refine⟨P,f1,ha,oM,oM,bC (es:=aD n xa xn xc) (k:=10) (aZ _ _ _ _) rfl (λa4 ht=>by rw[Qx];exact i1 a4 ht) (PA.mk λk7 i3 k8 i4=>aB (aZ n xa xn xc) i4 rfl λk9 i5 l0 i6=>λi7 e7=>?_)⟩;have K:ai e6 i7:=(i3.new i5 λP a=>.inr (by have a:P=e6.heap.size:=a;omega)).then e7.af;have a5:=bD.ah c8 bM K;have l3:=z.af.size;obtain⟨f3,f4,f5⟩:=a5.at' 3;refine⟨p,0,rfl,_,ae (a5.at' 0).2 rfl,ar (aZ n xa xn xc) ((e7.af (S:=λ_=>False)).get i6 id) (PC.ok (tB f3 (i2.ah K) (λP a=>⟨by have:=b5 P a;have:=K.size;omega,λm=>i0 P a m.1⟩) d0 (by show((⟨c.br.toNat,[]⟩:au).fq (d.out.take b)).l.length<_;omega)) ?_)⟩;rintro _ l4 ⟨rfl,F8,f2,f6⟩;have i8:((⟨c.br.toNat,[]⟩:au).fq (d.out.take (b+1)))=(((⟨c.br.toNat,[]⟩:au).fq (d.out.take b)).add n).2:=by
    rw[Qw,S];exact au.lX ..
   obtain⟨F9,a6,a7,o,-⟩:=a5.Bz bM (k:=3) (G':=F8) (C2:=kM p (({h with sp:=f,bp:=i,lp:=XM s}:iZ).cells c self) {h with sp:=f,bp:=i,lp:=XM s} c {X with S:=(⟨c.br.toNat,[]⟩:au).fq (d.out.take (b+1)),D:=d.D,log:=some d.V} []) f6 f2.aF (by rw[i8];exact⟨f2,f4.add d0,(au.Sa _ _).trans f5⟩) λb G j k=>by
    rcases b with _|_|_|_|_|_|_|b<;>first|exact k|exact Zz rfl j
   exact⟨_,rfl,_,oM,b+1,F9,a6,aq oM,oM,rfl,a7,z.trans ⟨(ai.af K).then o.af,λP a=>(o.new P a).imp id λh1=>by have:=K.size;omega⟩⟩
  ·rw[Qz oM]at c8 c9
   exact Be c8 (A.Bz (b4.trans z)) (λg3 n h3 S=>by simp at S) (by show((⟨c.br.toNat,[]⟩:au).fq d.out).l.length<=_;omega) (κ:=λB w'=>Ok (λB w'=>B= XH 0/\((⟨c.br.toNat,[]⟩:au).fq d.out).l.length<=16777216/\∃U q e,cI w' q e p U c self {X with S:=(⟨c.br.toNat,[]⟩:au).fq d.out,D:=d.D,log:=some d.V}/\cK F w q w') (.returned B) w')
    λw' q e a8 f8=>Ok.mk ⟨rfl,oM,_,q,e,a8,(b4.trans z).trans f8⟩
end
structure sW where
 code:Int
 id:Int×Int
 st:lJ
 Tw:List cM
 rows:List dE
 more:Bool
def mE(P:sW)(a:ZH)(b c:Nat)(d:ZH)(e f:Nat)(g:ZH)(h i:Nat):List Value:=
 [XH P.code,XH P.id.1,XH P.id.2,XH P.st.version,.slice a b c,.slice d e f,.slice g h i,.bool P.more]
def kq(P:sW)(a:ZH)(b c:Nat)(d:ZH)(e f:Nat)(g:ZH)(h i:Nat):ia XP 46 (mE P a b c d e f g h i)=true:=kR
def iu(i:World)(P:sW)(j:Value)(a:World):Prop:=∃(c:ZH) (d k:Nat) (e:ZH) (f l:Nat) (g:ZH) (h m:Nat) (G:XN),j= .agg (mE P c d k e f l g h m).toArray/\
 Row fg 32 a G c d P.st.cells/\Row xB 120 a G e f P.Tw/\Row Gg 24 a G g h P.rows/\∀b,G b->i.heap.size<=b/\b<a.heap.size
abbrev n_(P:Int):sW:=⟨P,(0,0),⟨0,[]⟩,[],[],false⟩
abbrev LG(id:Int×Int):sW:=⟨0,id,⟨0,[]⟩,[],[],false⟩
structure kv.Ok (x:kv):Prop where
 aX:aN x.aX
 agg:aN x.agg
 field:aN x.field
 op:aN x.op
 arg:aN x.arg
 key:aN x.key
variable{e6:sW}
section
variable {w w' w0:World} {p:Nat} {F E T:XN} {cls:Nat->Nat} {h:iZ} {c:cD} {self:Int} {X:bI} {evs lB:List aj} {ea:ZH} {en ec:Nat}
def iu.plain(P:e6.st.cells=[])(a:e6.Tw=[])(b:e6.rows=[]):iu w e6 (.agg (mE e6 none 0 0 none 0 0 none 0 0).toArray) w':=
 ⟨none,0,0,none,0,0,none,0,0,λ_=>False,rfl,by rw[P];exact dN _ _,by rw[a];exact dN _ _,by rw[b];exact dN _ _,λd c=>c.elim⟩
def row_one{a:ju j}{bytes b:Nat}{w:World}{P:Array Value}{o:Nat×Nat}{f:j}{D:XN}(h:w.heap[b]? =some (.cells P g o))(i:a.rep w D f P.toList)(k:bytes<=1000):Row a bytes w (λc=>c=b\/D c) (XM b) 1 [f]:=by
 have p:=a.len i;refine⟨rfl,by unfold aO;omega,λd q e=>?_⟩;obtain rfl:d=0:=by
  rcases d with _|d
  ·rfl
  ·simp at e
 simp at e;subst e;refine⟨b,0,P.toList,rfl,ay h,.inl rfl,λl m=>?_,a.mono i λc k=>.inr k⟩;have n:l<P.size:=by rw[<-p]at m;simpa using m
 rw[ae h (v:=P[l]) (by simp[n])];simp[n]
def Tx(j:A.OK){M:Int}(e:0<=M)(f:∀P∈A.l,P.aA<=M):A.top<=M:=by
 have:∀(b:List aj) (a:Int),a<=M->(∀P∈b,P.aA<=M)->b.foldl (λa P=>max a P.aA) a<=M:=by
  intro b
  induction b with
  |nil=>intro a c _;exact c
  |cons P b g=>
   intro a c d;refine g _ ?_ λh i=>d h (QJ _ i);have:=d P (QV ..);show max a P.aA<=M;omega
 exact this A.l 0 e f
def Kq[Decidable L]{P a:aj×Bool×Int}(b:P.1.Ok)(c:a.1.Ok):(if L then P else a).1.Ok:=by
 split
 ·exact b
 ·exact c
def HZ(P:d2.Ok)(d:aN e)(g:aN q)(a:∀f∈t,aN f):(aV d2 e t q).2.Ok:=by
 have h:=Bf a e;unfold aV;dsimp only
 by_cases b:e<0\/(t.length:Int)<=e\/q<0
 ·rw[Zx b];exact Bg
 rw[Zq b]
 by_cases c:fr t e=9223372036854775807\/q=9223372036854775807
 ·rw[Zx c];exact Bg
 rw[Zq c];refine⟨d,?_,?_,DD a sM,P.aX,P.agg,P.field,P.op,P.arg,P.key⟩
 ·show aN (fr t e+1);unfold aN at*;omega
 ·show aN (q+1);unfold aN at*;omega
def RC(e:A.l.length<=20000000):∀a∈A.vec,aN a:=λa c=>by
 obtain⟨d,P,rfl⟩:=List.getElem_of_mem c;rw[A.bN]at P;have b:=A.nP P;rw[Qq (by rw[A.bN];exact P)]at b;rw[XJ b];have:=A.Pz d;unfold aN;omega
def LH(P:A.OK):aN A.top:=by
 have c:=Tx P (M:=9223372036854775807) oM λa b=>by have:=(P.ok a b).aA;unfold aN at this;omega
 have d:=A.Kr;unfold aN;omega
def RD(a:d2.Ok)(P:A.OK)(b:aN e)(h:aN q)(c:A.l.length<=20000000):(qm J A d1 e q d2).1.Ok:=by
 have d:aN (max A.top q):=by
  have i:=LH P;unfold aN at*;omega
 rw[wB];refine Kq Bg ?_
 cases f:A.keyed d2.key with
 |some g=>exact P.ok g (List.mem_of_find?_eq_some f)
 |none=>exact Kq Bg (Kq Bg (HZ a b d (RC c)))
end
section
variable {w w' w0:World} {p:Nat} {F E T:XN} {cls:Nat->Nat} {h:iZ} {c:cD} {self:Int} {X:bI}
def kY.Sw(P:kY c self):0<=self/\self<c.br:=by
 have:=P.right;unfold gX within at this;simp only[QK,Zk]at this;omega
def wV(hr:bE w p F c self X)(J:Env w0 w F)(hx:d2.Ok)(hl:X.S.l.length+1<=20000000):
  ZG 13 #[XL p,sk d2] w (Ok λa3 w'=>∃e,iu w (if(dY c self X d2).1≠0 then n_ (dY c self X d2).1 else LG (dY c self X d2).2.1) a3 w'/\bE w' p e c self (dY c self X d2).2.2/\cK F w e w'):=by
 have b8:=hr;obtain⟨q,h,cls,m⟩:=hr;have u:=m.aF;have e2:=(m.HO)
 have g6:=u p e2.1;have d4:aN self:=by have:=q.Sw;have:=q.br;unfold aN;omega
 refine kC (PA.mk λC e3 g7 e4=>PA.mk λb2 c1 g8 d5=>?_);have a1:=e3.then c1;have e5:=cI.ah m a1;have E:∀{g:World} {e:XN} {l:bI} {y:sW},y.st.cells=[]->y.Tw=[]->y.rows=[]->(∃r,g.heap[C.heap.size]? =some (.cells r 46 (0,0))/\r.size=8)->bE g p e c self l->(∀P,e P->F P\/b2.heap.size<=P)->cK F w e g->(dY c self X d2).2.2=l->(if(dY c self X d2).1≠0 then n_ (dY c self X d2).1 else LG (dY c self X d2).2.1)=y->
   xC XP 46 (XL C.heap.size) (.agg (mE y none 0 0 none 0 0 none 0 0).toArray) g λc2=>ot XP 46 (XL C.heap.size) c2 λb=>Ok (λa3 w'=>∃e,iu w (if(dY c self X d2).1≠0 then n_ (dY c self X d2).1 else LG (dY c self X d2).2.1) a3 w'/\bE w' p e c self (dY c self X d2).2.2/\cK F w e w') (.returned b) c2:=λ{g e l y} y1 y2 y3 hz b3 b4 Q hX hy=>by
  obtain⟨r,hg,e6⟩:=hz;refine aB (kq y none 0 0 none 0 0 none 0 0) hg (by rw[e6];rfl) λc2 d6 g9 e7=>ar (kq y none 0 0 none 0 0 none 0 0) e7 (Ok.mk ⟨e,by rw[hy];exact iu.plain y1 y2 y3,?_,Q.af.new d6 λP a=>.inr (by have a:P=C.heap.size:=a;omega),Q.new⟩);rw[hX];refine b3.af d6 λP a f=>?_;have f:P=C.heap.size:=f;rcases b4 P a with h1|h1
  ·have:=u P h1;omega
  ·omega
 refine⟨p,0,rfl,_,ae e5.bl rfl,fm Tryz.underlying95 ⟨_,rfl,?_⟩⟩;have d7:DL w (λP=>F P/\cls P=2) h.dp h.lp X.D X.log:=m.at' 2;obtain⟨hS,R,hn⟩:=(show cC w h.sp (λP=>F P/\cls P=3) X.S/\X.S.Cl/\X.S.n=c.br.toNat from m.at' 3)
 cases S:X.log with
 |none=>
  obtain⟨Fd,-,-,h3⟩:=d7;rw[S]at h3;have h3:h.lp=none:=h3;rw[h3];refine an.tt rfl ?_;have n:dY c self X d2=(15,(0,0),X):=by unfold dY;rw[S]
  exact E (y:=n_ 15) rfl rfl rfl ⟨_,d5,rfl⟩ (b8.ah a1) (λP a=>.inl a) ⟨ai.af a1,λP a=>.inl a⟩ (by rw[n]) (by rw[n];rfl)
 |some f5=>
 obtain⟨f8,a4,c3,-⟩:=DL.Nf (S▸d7) (J.sub λP a=>a.1) λP a=>u P a.1;rw[a4];refine an.ff rfl λe8 e9=>⟨λ_=>False,?_⟩
 have b5:ai b2 e8:=e9.af;have a2:=a1.then b5;have c4:=cI.ah m a2;refine⟨p,0,rfl,id,_,_,_,_,_,_,ae c4.bl rfl,ae c4.bl rfl,p,0,rfl,_,ae c4.bl rfl,PC.ok (qx (hS.ah a2) oM) ?_⟩;rintro _ h2 ⟨la,ln,lc,G,rfl,c5,K,hG⟩;have h4:=c5.len dC;have f2:=c5.aF;have T:=a2.then K;have h6:=cI.ah m T;have b9:∀{g:World},ai w g->bf g (λP=>F P/\cls P=1) c.decl h.ta h.tn h.pa h.pn:=λ{g} H=>(cI.ah m H).at' 1;refine⟨_,_,_,rfl,K,PC.ok (FR q.decl (J.mW.ah (J.gr.then T)) (b9 T) (λP a=>by have:=u P a.1;have:=T.size;omega) (c5.row dC ba) (λP a=>f2 P a) oM) ?_⟩;rintro _ I ⟨vp,Fv,rfl,hv,h7,L⟩;have M:=T.then L;have c0:=((c1.then b5).then K).then L;obtain⟨g4,f3⟩:=Gh q.decl X.S.l;obtain⟨b,c6⟩:∃b,b=qm c.decl X.S (cH c.decl X.S.l) self c.start d2:=⟨_,rfl⟩
 have h8:=a2.size;have h9:=K.size;have i0:=L.size;have v:∀{g:World},ai I g->ZG 42 #[.agg #[.slice h.ta h.tn h.tc,.slice h.pa h.pn h.pc],XL h.sp,XL vp,XH self,XH c.start,sk d2] g (Ok (uU g b)):=λ{g} H=>by
  rw[c6];exact Cu (J.mW.ah ((J.gr.then M).then H)) (b9 (M.then H)) (λP a=>by have:=u P a.1;have:=(M.then H).size;omega) q.decl (hS.ah (M.then H)) oM (hv.ah H) f3
   (by have:=q.start;unfold aN at this;omega) (by have:=LH R.ok;unfold aN at this;omega)
 refine⟨_,rfl,L,λU eo o no w'=>eo=0/\∃i j k G,w'.heap[U]? =some (.cells (aD b.1 i j k).toArray 55 (0,0))/\Row aM 8 w' G i j b.1.aQ/\(∀P,G P->I.heap.size<=P/\P<w'.heap.size)/\I.heap.size<=U/\o=b.2.1/\no=b.2.2/\ai I w',?_,?_⟩
 ·intro x d8
  have N:ai I x:=d8.af;have i1:x.heap.size=I.heap.size:=by rw[d8.heap]
  have d9:=M.then N;have V:=cI.ah m d9;have e0:=N.get (c0.get e4 id) id;have nS:¬x.heap.size<=p:=oM
  have f4:¬x.heap.size<=w.heap.size:=by have:=b5.size;have:=K.size;have:=L.size;omega
  refine⟨λP=>x.heap.size<=P,p,0,rfl,nS,_,_,_,_,_,_,ae V.bl rfl,ae V.bl rfl,p,0,rfl,nS,_,ae V.bl rfl,p,0,rfl,nS,_,ae V.bl rfl,p,0,rfl,nS,_,ae V.bl rfl,f4,ar (CH d2) e0 ⟨PC.ok (v N) ?_,PA.mk λi2 c7 i3 f6=>⟨ai.af c7,PC.ok (v (N.then c7)) ?_⟩⟩⟩
  ·rintro _ c8 ⟨i,j,k,G,rfl,W,s,c9⟩
   have i4:=c9.size;refine bX (qN b.1 i j k) ⟨_,_,rfl,ai.af c9,PA.mk λi5 d0 i6 f7=>⟨ai.af d0,aB (aZ b.1 i j k) f7 rfl λi7 d1 i8 g0=>⟨d1.mono λP _ f=>by have f:P=c8.heap.size:=f;omega,rfl,i,j,k,G,g0,?_,λP a=>⟨by have:=s P a;omega,by have:=s P a;omega⟩,oM,rfl,rfl,?_⟩⟩⟩
   ·exact(W.ah d0).af d1 λP a f=>by have f:P=c8.heap.size:=f;have:=(s P a).2;omega
   ·exact((N.then c9).then d0).new d1 λP a=>.inr (by have a:P=c8.heap.size:=a;omega)
  ·rintro _ i9 ⟨i,j,k,G,rfl,W,s,b6⟩
   have j0:=b6.size;refine bX (qN b.1 i j k) ⟨_,_,rfl,ai.af b6,aB (aZ b.1 i j k) (b6.get f6 id) rfl λj1 a5 j2 g1=>⟨a5.mono λP _ f=>by have f:P=x.heap.size:=f;omega,rfl,i,j,k,G,g1,?_,λP a=>⟨by have:=s P a;omega,by have:=s P a;omega⟩,oM,rfl,rfl,?_⟩⟩
   ·exact W.af a5 λP a f=>by have f:P=x.heap.size:=f;have:=(s P a).1;omega
   ·exact((N.then c7).then b6).new a5 λP a=>.inr (by have a:P=x.heap.size:=a;omega)
 rintro U _ o no _ O ⟨rfl,i,j,k,G2,d,W,s,j3,rfl,rfl,d3⟩;have Y:=M.then d3;have j4:=cI.ah m Y;have g5:=c0.then d3;have b0:=d3.get (L.get (K.get (b5.get d5 id) id) id) id;have a6:b.1.Ok:=by rw[c6];exact RD hx R.ok d4 q.start oM
 have a7:∀{z:Int×(Int×Int)×bI},(if b.2.2≠0 then(b.2.2,(0,0),X)else if b.2.1 then(if(ef c X [b.1]).1≠0 then((ef c X [b.1]).1,(0,0),(ef c X [b.1]).2)else(0,bd b.1,(ef c X [b.1]).2))else(0,bd b.1,X))=z->dY c self X d2=z:=λ{z} ht=>by
  rw[<-ht,c6];unfold dY;rw[S]
 have j5:=Y.size;have f0:=ay d;refine⟨λz w'=>∃e l,bE w' p e c self l/\cK F w e w'/\(∀P,e P->F P\/b2.heap.size<=P)/\w'.heap[U]? =some (.cells (aD b.1 i j k).toArray 55 (0,0))/\(∃r,w'.heap[C.heap.size]? =some (.cells r 46 (0,0))/\r.size=8)/\dY c self X d2=(if z≠0 then(z,(0,0),l)else(0,bd b.1,l)),?_,?_⟩
 ·have A:dY c self X d2=(if b.2.2≠0 then(b.2.2,(0,0),X)else(0,bd b.1,X))->∃e l,bE O p e c self l/\cK F w e O/\(∀P,e P->F P\/b2.heap.size<=P)/\O.heap[U]? =some (.cells (aD b.1 i j k).toArray 55 (0,0))/\(∃r,O.heap[C.heap.size]? =some (.cells r 46 (0,0))/\r.size=8)/\dY c self X d2=(if b.2.2≠0 then(b.2.2,(0,0),l)else(0,bd b.1,l)):=λn=>
   ⟨F,X,b8.ah Y,⟨ai.af Y,λP a=>.inl a⟩,λP a=>.inl a,d,⟨_,b0,rfl⟩,n⟩
  refine an.dO (λB=>an.mk (λt=>?_) (λt=>A (a7 (by rw[Zq (by simpa using B),Zq (by simpa using t),Zq (by simpa using B)])))) (λB=>A (a7 (by rw[Zx B,Zx B])));refine⟨_,_,_,_,_,_,_,_,_,_,_,_,ae d rfl,ae d rfl,ae d rfl,ae d rfl,ae d rfl,ae d rfl,ae d rfl,ae d rfl,ae d rfl,ae d rfl,PA.mk λe1 b7 j6 g2=>?_⟩;have a9:=Y.then b7;have f1:Row h_ 96 e1 (λP=>P=O.heap.size\/G2 P) (XM O.heap.size) 1 [b.1]:=row_one g2 ⟨i,j,k,rfl,W.ah b7,a6⟩ dC;refine PC.ok (HP (cI.ah m a9) q (J.ah a9) S f1 (λP a=>?_) (by simpa using hl)) ?_
  ·have g3:I.heap.size<=P/\P<e1.heap.size:=a.elim (λf=>⟨oM,oM⟩) λh5=>by have:=s P h5;omega
   exact⟨g3.2,λt=>by have:=u P t.1;omega⟩
  rintro _ j7 ⟨rfl,h',e,Z,a8,a0,-⟩;refine⟨_,rfl,e,(ef c X [b.1]).2,⟨q,h',Z,a8⟩,⟨(ai.af a9).then a0.af,λP a=>(a0.new P a).imp id λh1=>oM⟩,λP a=>(a0.new P a).imp id λh1=>by have:=c1.size;omega,a0.af.get (b7.get d id) λt=>by have:=u _ t;omega,⟨_,a0.af.get (b7.get b0 id) λt=>by have:=u _ t;omega,rfl⟩,?_⟩;exact a7 (by rw[Zq (by simpa using B),Zx t])
 ·rintro z _ j8 ⟨e,l,b3,Q,b4,b1,hz,n⟩
  refine an.dI (λc3=>?_) (λB=>⟨_,_,ae b1 rfl,ae b1 rfl,?_⟩)
  ·rw[Zx c3]at n
   exact E (y:=n_ z) rfl rfl rfl hz b3 b4 Q (by rw[n]) (by rw[n];exact Zx c3)
  ·rw[Zq (by simpa using B)]at n
   exact E (y:=LG (bd b.1)) rfl rfl rfl hz b3 b4 Q (by rw[n]) (by rw[n];rfl)
end
def eM(d:World)(e:XN)(h:List c_)(i:Value)(b:World):Prop:=
 ∃(a:ZH) (f g:Nat) (c:List FQ) (D:XN),i= .slice a f g/\aT Rz 60 (λP=>aI a=some P) b a f g c/\c.map (·.m)=h/\(∀P∈c,P.In b D)/\(∀P,D P->d.heap.size<=P/\P<b.heap.size/\aI a≠some P/\¬e P)/\∀P,aI a=some P->d.heap.size<=P/\¬e P
section
variable {w w' w0 w1:World} {p:Nat} {F E T Z:XN} {cls:Nat->Nat} {h:iZ} {c:cD} {self:Int} {X:bI} {ms:List c_} {v:Value}
def bh.out(f:bh w1 ms v w')(d:∀P,Z P->P<w1.heap.size)(o:w.heap.size<=w1.heap.size):eM w Z ms v w':=by
 obtain⟨g,h,i,j,D,k,l,m,n,b,e,p⟩:=f;exact⟨g,h,i,j,D,k,l,m,n,λP a=>⟨by have:=(b P a).1;omega,(b P a).2.1,(b P a).2.2,λc=>by have:=d P c;have:=(b P a).1;omega⟩,λP a=>⟨by have:=e P a;omega,λc=>by have:=d P c;have:=e P a;omega⟩⟩
def eM.nil(w0 w:World)(Z:XN):eM w0 Z [] (.slice none 0 0) w:=⟨none,0,0,[],λ_=>False,rfl,(aT.nil w).mono (λa P=>P.elim) (λa P=>(by cases P)),rfl,sM,λa P=>P.elim,λa P=>(by cases P)⟩
def bh.one{m:c_}{va c:ZH}{vn vc d e b:Nat}{D:XN}(g:w.heap[b]? =some (.cells (bS m va vn vc c d e).toArray 60 (0,0)))(i:(⟨m,va,vn,vc,c,d,e⟩:FQ).In w D)(f:∀a,D a->w0.heap.size<=a/\a<w.heap.size/\a≠b)(k:w0.heap.size<=b)(j:ai w0 w):
  bh w0 [m] (.slice (XM b) 1 1) w:=by
 have l:=ay g;refine⟨XM b,1,1,[⟨m,va,vn,vc,c,d,e⟩],D,rfl,⟨⟨bS m va vn vc c d e,λ_=>False,Own.yS g rfl (by unfold maxLen;omega),bJ.one ⟨rfl,trivial⟩,λa P=>P.elim⟩,λa P=>P,λa P=>?_⟩,rfl,λa P=>?_,λa P=>⟨(f a P).1,(f a P).2.1,λh=>?_⟩,λa P=>?_,j⟩
 ·simp only[aI,Q1]at P;omega
 ·simp at P;subst P;exact i
 ·simp only[aI,Q1]at h;exact(f a P).2.2 h.symm
 ·simp only[aI,Q1]at P;omega
def uz(o:bE w p F c self X)(A:aN e):
  ZG 55 #[XL p,XH e,XH q] w (Ok λv w'=>∃P,eM w P (gj c self X e q).1 v w'/\bE w' p P c self (gj c self X e q).2/\cK F w P w'):=by
 have B:=o;obtain⟨C,h,cls,d⟩:=o;have no:(e<0\/e>=c.br\/e=self)->Ok (λv w'=>∃P,eM w P (gj c self X e q).1 v w'/\bE w' p P c self (gj c self X e q).2/\cK F w P w') (.returned (.slice none 0 0)) w:=λj=>by
  have:gj c self X e q=([],X):=by unfold gj;rw[Zx j]
  rw[this];exact Ok.mk ⟨F,eM.nil _ _ _,B,cK.refl _ _⟩
 refine jQ (an.dec (λk=>no (.inl k)) (λk=>⟨p,0,rfl,_,ae d.bl rfl,an.dec (λl=>no (.inr (.inl l))) (λl=>⟨p,0,rfl,_,ae d.bl rfl,an.dO (λm=>no (.inr (.inr m))) (λm=>⟨p,0,rfl,_,ae d.bl rfl,?_⟩)⟩)⟩));have E:gj c self X e q=([jG X.S self e],{X with fI:={X.fI with asked:=aK X.fI.asked e q}}):=by unfold gj;rw[Zq (by rintro(h|h|h);exact k h;exact l h;exact m h)]
 refine PC.ok (H_ (d.at' 6) A) ?_;rintro _ r ⟨rfl,H,s⟩;have I:cI r F cls p h c self {X with fI:={X.fI with asked:=aK X.fI.asked e q}}:=bD.same d bM (k:=6) s H λt G J j=>by
  rcases t with _|_|_|_|_|_|_|t<;>first|exact j|exact Zz rfl J
 refine⟨rfl,λn K=>?_⟩;have u:ai r n:=K.af;have b:=cI.ah I u;refine⟨p,0,rfl,_,ae b.bl rfl,p,0,rfl,_,ae b.bl rfl,PC.ok (xi (b.at' 3).1) ?_⟩;rintro _ L ⟨S,T,U,G,rfl,x,M,g⟩;have y:=x.aF;have N:=g.size;refine⟨_,_,_,_,_,_,_,_,_,rfl,PA.mk λO i V Q=>?_⟩;rw[E];have R:bh n [jG X.S self e] (.slice (XM L.heap.size) 1 1) O:=bh.one (D:=G) Q ⟨(x.ah i).row dC (by show X.S.vec.length*8<=aO;rw[X.S.bN];have:=(b.at' 3).1.1.n;have:X.S.n<=64:=this;unfold aO;omega),dN _ _⟩ (λf a=>⟨M f a,by have:=y f a;omega,by have:=y f a;omega⟩) N (g.then i);have z:ak F w n:=(s.mono λf _ a=>a.1).ah u;exact Ok.mk ⟨F,R.out b.aF z.size,⟨C,h,cls,cI.ah b (g.then i)⟩,(z.ah g).ah i,λf a=>.inl a⟩
def RE(T:jb)(c:Int):∀P∈T.due c,P∈T.open:=by
 have:∀(d:List Int) (e:List Int×List (Int×Int)),∀P∈(d.foldl (fD T.cV c) e).1,P∈e.1\/P∈d:=by
  intro d
  induction d with
  |nil=>intro e P a;exact .inl a
  |cons h d g=>
   intro e P a;rcases g _ P a with b|b
   ·unfold fD at b
    split at b
    ·rcases Q6.1 b with f|f
     ·exact .inl f
     ·simp at f;subst f;exact .inr (QV ..)
    ·exact .inl b
   ·exact .inr (QJ _ b)
 intro P a;unfold jb.due jb.iv at a;rw[List.take_length]at a;exact(this T.open ([],T.asked) P a).resolve_left sM
def PB{T:jb}(b:∀P∈T.asked,aN P.1):∀a∈T.open,aN a:=λa c=>by
 have:a∈T.asked.map (·.1):=(List.mergeSort_perm _ _).mem_iff.1 c;obtain⟨P,d,rfl⟩:=Xk.1 this;exact b P d
def RF(T:jb)(P:Int):(T.due P).length<=T.asked.length:=by
 have:∀(b:List Int) (a:List Int×List (Int×Int)),(b.foldl (fD T.cV P) a).1.length<=a.1.length+b.length:=by
  intro b
  induction b with
  |nil=>intro a;simp
  |cons c b e=>
   intro a;have d:=e (fD T.cV P a c);have f:(fD T.cV P a c).1.length<=a.1.length+1:=by
    unfold fD;split
    ·simp
    ·omega
   simp only[List.foldl_cons,Xq];omega
 have d:=this T.open ([],T.asked);unfold jb.due jb.iv;rw[List.take_length];have f:T.open.length=T.asked.length:=by simp[jb.open,uV]
 simp only[ZQ]at d;omega
def OU(M:bE w p F c self X)(b:X.fI.asked.length<=1000):
  ZG 58 #[XL p,XH e] w (Ok λv w'=>∃m,eM w m (Ia self X e).1 v w'/\bE w' p m c self (Ia self X e).2/\cK F w m w'):=by
 obtain⟨N,h,cls,n⟩:=M;have u:dQ w h.tp (λP=>F P/\cls P=6) X.fI:=n.at' 6;have O:∀d∈X.fI.due e,aN d:=λd g=>PB u.rF d (RE _ _ d g);have b0:=RF X.fI e;refine mX ⟨p,0,rfl,_,ae n.bl rfl,PC.ok (Nn u ba) ?_⟩;rintro _ i ⟨Q,o,cc,rfl,x,R,q,hn⟩;have y:cI i F cls p h c self {X with fI:=X.fI.PD e}:=bD.same n bM (k:=6) q R λa G z S=>by
  rcases a with _|_|_|_|_|_|_|a<;>first|exact S|exact Zz rfl z
 have T:=x.length;rw[iI,Nat.mul_one]at T;have U:Ints i Q o (X.fI.due e):=x.ints ba O;have V:=y.aF;have W:=q.size;refine⟨_,_,_,rfl,λA B C E Y w'=>∃a:Nat,Y=a/\a<=o/\A=o-a/\bh i (((X.fI.due e).take a).map λf=>jG X.S self f) (.slice B C E) w',⟨_,0,rfl,Qj _,rfl,bh.nil i⟩,?_⟩;rintro A B C E _ _ Z ⟨a,rfl,z,rfl,j⟩;have r:=j;obtain⟨a3,n1,c1,a4,D,he,g2,g3,g4,g5,g6,k⟩:=r
 cases he
 have H:=cI.ah y k;have b1:=k.size;refine an.dec (λb2=>?_) (λb3=>?_)
 ·obtain⟨P,s,d,rfl,b4,g,b5,a0⟩:=(U.ah k).at (i:=(a:Int)) oM oM
  rw[Qx]at g;refine⟨P,s,rfl,oM,oM,d,a0,λa6 a7=>?_⟩;have t:ai Z a6:=a7.af;have l:=cI.ah H t;refine⟨p,0,rfl,_,ae l.bl rfl,p,0,rfl,_,ae l.bl rfl,PC.ok (xi (l.at' 3).1) ?_⟩;rintro _ b6 ⟨va,vn,vc,G,rfl,I,J,K⟩;have a8:=I.aF;have b7:=t.size;have b8:=K.size;refine⟨_,_,_,_,_,_,_,_,_,rfl,PA.mk λb9 L c0 a9=>?_⟩;refine bh.push (m:=jG X.S self d) (E:=G) (j.ah ((t.then K).then L)) LI ⟨(I.ah L).row dC (by show X.S.vec.length*8<=aO;rw[X.S.bN];have:X.S.n<=64:=(l.at' 3).1.1.n;unfold aO;omega),dN _ _⟩ (λP b=>⟨by have:=J P b;omega,by have:=a8 P b;omega,λa1=>by have:=g2.aF P a1;have:=J P b;omega⟩) a9 (by rw[Q8,Qy];omega) λa' c' c2 a2 c3=>⟨_,_,_,rfl,_,?_,a+1,aq oM,oM,rfl,?_⟩
  ·omega
  ·rw[Qw,g,Q3];exact a2
 ·rw[Qz oM]at j
  exact Ok.mk ⟨F,j.out V W,⟨N,h,cls,H⟩,(q.mono λP _ b=>b.1).ah k,λP b=>.inl b⟩
def FA(a:bE w p F c self X):ZG 23 #[XL p] w (Ok (oK aM 3 w X.S.vec)):=by
 obtain⟨g,h,cls,P⟩:=a;refine ox ⟨p,0,rfl,_,ae P.bl rfl,PC.ok (kO (P.at' 3).1) ?_⟩;rintro _ i ⟨b,d,e,G,rfl,f⟩;exact⟨_,_,_,rfl,Ok.mk ⟨b,d,e,G,rfl,f⟩⟩
def Bh(b:bE w p F c self X)(P:X.S.l.length<=20000000):ZG 14 #[XL p] w (Ok (oK h_ 55 w X.S.l)):=by
 obtain⟨g,h,cls,a⟩:=b;refine ly ⟨p,0,rfl,_,ae a.bl rfl,PC.ok (qx (a.at' 3).1 P) ?_⟩;rintro _ i ⟨d,e,f,G,rfl,P⟩;exact⟨_,_,_,rfl,Ok.mk ⟨d,e,f,G,rfl,P⟩⟩

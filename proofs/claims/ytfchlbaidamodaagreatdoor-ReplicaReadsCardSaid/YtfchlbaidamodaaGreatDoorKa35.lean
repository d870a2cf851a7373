import Derived.Test.YtfchlbaidamodaaGreatDoorKa28
set_option linter.all false
set_option maxRecDepth 20000
namespace Go.Proofs.YtfchlbaidamodaaGreatDoor
open Go.ax
section
variable {D E:ak} {A:oA} {no:Int} {l x:List ah} {k j n s:Nat} {V:cY}
def JO (A:oA) (k:Nat):Nat:=((A.map (·.2)).flatten).length+k
def WW (a:Int) (A:oA):Prop:=∀b∈A,a<=((ar b.2).length:Nat)
theorem zo (j:cE D A no l k) (m:AV V A no l) (J:∀e∈x,e.Ok) (T:x.length<=20000000) (K:D.Ok) (o:WW V.size A):
  ∃b c d f,cE (az V D x).2.2 b c d f/\AV (az V D x).2.1 b c d/\JO A k<=JO b f/\cI b d=(if(az V D x).1=0 then cI A l++x else cI A l)/\(az V D x).2.1.size=V.size/\WW V.size b/\
   ((b=A/\c=no/\(az V D x).2.1.next=V.next)\/(b=A++[(no,l)]/\c=V.next/\(az V D x).2.1.next=V.next+1)):=by
 unfold az
 by_cases v:x.any eD=true
 ·rw [if_pos v]
  exact⟨A,no,l,k,j,m,Q4 _,rfl,rfl,o,.inl ⟨rfl,rfl,rfl⟩⟩
 rw [if_neg v]
 by_cases w:x=[]
 ·rw [if_pos w]
  exact⟨A,no,l,k,j,m,Q4 _,by rw [if_pos rfl,w,List.append_nil],rfl,o,.inl ⟨rfl,rfl,rfl⟩⟩
 rw [if_neg w];have C:∀e∈x,e.Ok/\e.aK.length<=64:=λe p=>⟨J e p,by
  have:¬eD e=true:=λh=>v (List.any_eq_true.2 ⟨e,p,h⟩);unfold eD at this;simp at this;omega⟩
 have U:=wv C;have L:(ar l).length<=262144:=by
  obtain⟨s,y,_⟩:=j.last;exact K.len (cF y)
 have i:∀(a:Int×cY×ak) (b:oA) (c:Int) (d:List ah) (f:Nat),a.1=0->cE a.2.2 b c d f->AV a.2.1 b c d->(ar d).length<=262144->JO A k<=JO b f->cI b d=cI A l->a.2.1.size=V.size->WW V.size b->
   ((b=A/\c=no/\a.2.1.next=V.next)\/(b=A++[(no,l)]/\c=V.next/\a.2.1.next=V.next+1))->
   ∃b c d f,cE (if a.1≠0 then a else if(a.2.2.append a.2.1.last (ar x)).1≠0 then((a.2.2.append a.2.1.last (ar x)).1,a.2.1,(a.2.2.append a.2.1.last (ar x)).2)else(0,⟨a.2.1.size,a.2.1.aX,IntKind.wrap .i64 (a.2.1.bytes+((ar x).length:Nat)),a.2.1.next⟩,(a.2.2.append a.2.1.last (ar x)).2)).2.2 b c d f/\
    AV (if a.1≠0 then a else if(a.2.2.append a.2.1.last (ar x)).1≠0 then((a.2.2.append a.2.1.last (ar x)).1,a.2.1,(a.2.2.append a.2.1.last (ar x)).2)else(0,⟨a.2.1.size,a.2.1.aX,IntKind.wrap .i64 (a.2.1.bytes+((ar x).length:Nat)),a.2.1.next⟩,(a.2.2.append a.2.1.last (ar x)).2)).2.1 b c d/\JO A k<=JO b f/\
    cI b d=(if(if a.1≠0 then a else if(a.2.2.append a.2.1.last (ar x)).1≠0 then((a.2.2.append a.2.1.last (ar x)).1,a.2.1,(a.2.2.append a.2.1.last (ar x)).2)else(0,⟨a.2.1.size,a.2.1.aX,IntKind.wrap .i64 (a.2.1.bytes+((ar x).length:Nat)),a.2.1.next⟩,(a.2.2.append a.2.1.last (ar x)).2)).1=0 then cI A l++x else cI A l)/\
    (if a.1≠0 then a else if(a.2.2.append a.2.1.last (ar x)).1≠0 then((a.2.2.append a.2.1.last (ar x)).1,a.2.1,(a.2.2.append a.2.1.last (ar x)).2)else(0,⟨a.2.1.size,a.2.1.aX,IntKind.wrap .i64 (a.2.1.bytes+((ar x).length:Nat)),a.2.1.next⟩,(a.2.2.append a.2.1.last (ar x)).2)).2.1.size=V.size/\WW V.size b/\
    ((b=A/\c=no/\(if a.1≠0 then a else if(a.2.2.append a.2.1.last (ar x)).1≠0 then((a.2.2.append a.2.1.last (ar x)).1,a.2.1,(a.2.2.append a.2.1.last (ar x)).2)else(0,⟨a.2.1.size,a.2.1.aX,IntKind.wrap .i64 (a.2.1.bytes+((ar x).length:Nat)),a.2.1.next⟩,(a.2.2.append a.2.1.last (ar x)).2)).2.1.next=V.next)\/
     (b=A++[(no,l)]/\c=V.next/\(if a.1≠0 then a else if(a.2.2.append a.2.1.last (ar x)).1≠0 then((a.2.2.append a.2.1.last (ar x)).1,a.2.1,(a.2.2.append a.2.1.last (ar x)).2)else(0,⟨a.2.1.size,a.2.1.aX,IntKind.wrap .i64 (a.2.1.bytes+((ar x).length:Nat)),a.2.1.next⟩,(a.2.2.append a.2.1.last (ar x)).2)).2.1.next=V.next+1)):=by
  intro a b c d f M n g W E p F I h;rw [if_neg (by simpa using M)];rw [cE.rQ g];rcases lA a.2.2 (au c) (ar x)with⟨t,z⟩|⟨t,X,q,z⟩
  ·rw [if_pos t]
   exact⟨b,c,d,f,n.files z,g,E,by rw [if_neg t];exact p,F,I,h⟩
  ·rw [if_neg (by simpa using t)]
   obtain⟨s,y,N,Y⟩:=n.last;rw [y]at q;cases q
   refine⟨b,c,d++x,f,n.put (s:=s) (by rw [z,eh]) (by have:=n.kl;simp;omega) ?_ (by rw [eh];simp;omega) ?_,⟨g.aX,?_,g.next⟩,E,?_,F,I,h⟩
   ·rw [List.take_append_of_le_length n.kl];exact N
   ·intro e O
    rcases Q6.1 O with H|H
    ·exact n.Yr e H
    ·exact C e H
   ·show IntKind.wrap .i64 _=_
    rw [g.bytes,wrap_i64 (by unfold aN;omega),eh];simp
   ·rw [if_pos rfl,<-p];simp [cI]
 dsimp only
 by_cases h:V.size<=V.bytes
 ·rw [if_pos h]
  rcases j.begin m with⟨u,r,B⟩|⟨u,r,B,P,Q⟩
  ·rw [if_pos u]
   exact⟨A,no,l,k,B,by rw [r];exact m,Q4 _,by rw [if_neg u],by rw [r],o,.inl ⟨rfl,rfl,by rw [r]⟩⟩
  ·refine i _ (A++[(no,l)]) V.next [] 0 u B P (by simp [ar]) ?_ (by rw [Dk,List.append_nil]) r ?_ (.inr ⟨rfl,rfl,Q⟩)
   ·have:=j.kl;unfold JO;simp;omega
   ·intro R S
    rcases Q6.1 S with H|H
    ·exact o R H
    ·rw [List.mem_singleton]at H;subst H
     rw [m.bytes]at h;exact h
 ·rw [if_neg h]
  exact i (0,V,D) A no l k rfl j m L (Q4 _) rfl rfl o (.inl ⟨rfl,rfl,rfl⟩)
theorem xk (t:bK D) (u:Tidy D.files) (c:0<=V.next/\V.next<1000000000000) (d:ay D.files (au V.next)=none):
  bK (bF V D).2.2/\((bF V D).1=0\/(bF V D).1=3\/(bF V D).1=12)/\((bF V D).1≠0->ay (bF V D).2.2.files (au V.next)=none):=by
 obtain⟨y,nt⟩:=fk (n:=V.next) (.inr c);unfold bF;dsimp only;rw [show cR (aB V.next)=au V.next from rfl];obtain⟨e,f⟩:=t.create (au V.next);have f:=f ((uy c.1).2 c.2) d;rcases lz D (au V.next)with⟨g,m⟩|⟨g,m,z,n⟩
 ·rw [if_pos g]
  exact⟨e,f.imp id .inr,λ_=>by show ay (D.create _).2.files _=none;rw [m];exact d⟩
 rw [if_neg (show¬(D.create (au V.next)).1≠0 by simpa using g)];have h:uz (au V.next) D (D.create (au V.next)).2:=(uz.refl u).put n;have o:ay (D.create (au V.next)).2.files (au V.next)=some ⟨[],0,false⟩:=by rw [n,bu];simp
 generalize(D.create (au V.next)).2=b at h o e;unfold m_;dsimp only;rw [show cR (aB V.next)=au V.next from rfl];obtain⟨p,i⟩:=e.sync (au V.next);have i:=i _ o;rw [if_neg (show¬(b.sync (au V.next)).1≠0 by simpa using i)];have j:Tidy (b.sync (au V.next)).2.files:=by
  rcases iL b (au V.next)with⟨k,a⟩|⟨k,A,d,a⟩
  ·rw [a];exact h.1
  ·rw [a];exact h.1.aJ _ _
 generalize(b.sync (au V.next)).2=l at j p;obtain⟨q,v⟩:=p.bJ j (V.aX++[V.next]);have mt:Tidy (bJ l (V.aX++[V.next])).2.files:=by
  rcases Lx j (V.aX++[V.next])with⟨-,r,-⟩|⟨-,-,r,-⟩<;>exact r
 by_cases s:(bJ l (V.aX++[V.next])).1=0
 ·rw [if_neg (by simpa using s)]
  exact⟨q,.inl rfl,λw=>absurd rfl w⟩
 ·rw [if_pos s]
  obtain⟨k,a⟩:=q.delete (au V.next);refine⟨k,v,λ_=>?_⟩;show ay ((bJ l (V.aX++[V.next])).2.delete (au V.next)).2.files _=none;rcases a with a|⟨a,x⟩
  ·rw [a,gh mt];simp
  ·rw [x];exact a
def xl (V:cY) (D:ak):Prop:=∀a,V.next<=a->a<1000000000000->ay D.files (au a)=none
theorem cE.Kd (f:cE D A no l k) (h:AV V A no l) (x:bK D) (p:xl V D) (q:V.next<1000000000000):
  bK (aG V D).2.2/\((aG V D).1=0\/(aG V D).1=3\/(aG V D).1=12)/\xl (aG V D).2.1 (aG V D).2.2:=by
 have y:¬V.aX=[]:=by rw [h.aX];simp
 have L:=f.mL;have M:=h.next;have d:aG V D=if(D.sync (au no)).1≠0 then((D.sync (au no)).1,V,(D.sync (au no)).2)else Go.Proofs.YtfchlbaidamodaaGreatDoor.bF V (D.sync (au no)).2:=by
  unfold aG;rw [if_neg y,cE.rQ h]
 obtain⟨s,z,_⟩:=f.last;obtain⟨r,i⟩:=x.sync (au no);have i:=i _ z;rw [d,if_neg (by simpa using i)];have B:∀a,V.next<=a->a<1000000000000->au a≠au no:=λa c b d=>by
  have:=gi (a:=no) oM d;omega
 have g:∀a,V.next<=a->a<1000000000000->ay (D.sync (au no)).2.files (au a)=none:=λa c b=>by
  rcases iL D (au no)with⟨j,e⟩|⟨j,C,m,e⟩
  ·rw [e];exact p a c b
  ·rw [e,bu,if_neg (by simpa using B a c b)];exact p a c b
 have n:Tidy (D.sync (au no)).2.files:=by
  rcases iL D (au no)with⟨j,e⟩|⟨j,C,m,e⟩
  ·rw [e];exact f.tidy
  ·rw [e];exact f.tidy.aJ _ _
 generalize(D.sync (au no)).2=N at r g n;obtain⟨E,F,H⟩:=xk r n ⟨oM,q⟩ (g _ (Int.le_refl _) q);refine⟨E,F,?_⟩;have o:∀a,V.next<=a->a<1000000000000->au a≠cg/\au a≠aS:=λa c b=>fk (.inr oM);rcases vl (V:=V) n oM with⟨t,u,I,v⟩|⟨t,u,I,v,J,O,P,Q,K⟩
 ·rw [u]
  intro a c b
  by_cases w:a=V.next
  ·subst w;exact H t
  ·rw [v _ (λd=>w (gi (a:=V.next) oM d)) (o a c b).2];exact g a c b
 ·rw [J]
  intro a c b;simp only at c;rw [K _ (λd=>by have:=gi (a:=V.next) oM d;omega) (o a oM b).2 (o a oM b).1];exact g a oM b
theorem H_ (m:cE D A no l k) (n:AV V A no l) (g:bK D) (h:xl V D) (H:V.next<1000000000000) (x:List ah):
  bK (az V D x).2.2/\((az V D x).1=0\/(az V D x).1=3\/(az V D x).1=12)/\xl (az V D x).2.1 (az V D x).2.2:=by
 unfold az;split
 ·exact⟨g,.inr (.inl rfl),h⟩
 split
 ·exact⟨g,.inl rfl,h⟩
 dsimp only;have b:∀(a:Int×cY×ak) (o:oA) (c:Int) (p:List ah) (u:Nat),a.1=0->cE a.2.2 o c p u->AV a.2.1 o c p->bK a.2.2->xl a.2.1 a.2.2->
   bK (if(a.2.2.append a.2.1.last (ar x)).1≠0 then((a.2.2.append a.2.1.last (ar x)).1,a.2.1,(a.2.2.append a.2.1.last (ar x)).2)else(0,⟨a.2.1.size,a.2.1.aX,IntKind.wrap .i64 (a.2.1.bytes+((ar x).length:Nat)),a.2.1.next⟩,(a.2.2.append a.2.1.last (ar x)).2):Int×cY×ak).2.2/\
   ((if(a.2.2.append a.2.1.last (ar x)).1≠0 then((a.2.2.append a.2.1.last (ar x)).1,a.2.1,(a.2.2.append a.2.1.last (ar x)).2)else(0,⟨a.2.1.size,a.2.1.aX,IntKind.wrap .i64 (a.2.1.bytes+((ar x).length:Nat)),a.2.1.next⟩,(a.2.2.append a.2.1.last (ar x)).2):Int×cY×ak).1=0\/
    (if(a.2.2.append a.2.1.last (ar x)).1≠0 then((a.2.2.append a.2.1.last (ar x)).1,a.2.1,(a.2.2.append a.2.1.last (ar x)).2)else(0,⟨a.2.1.size,a.2.1.aX,IntKind.wrap .i64 (a.2.1.bytes+((ar x).length:Nat)),a.2.1.next⟩,(a.2.2.append a.2.1.last (ar x)).2):Int×cY×ak).1=3\/
    (if(a.2.2.append a.2.1.last (ar x)).1≠0 then((a.2.2.append a.2.1.last (ar x)).1,a.2.1,(a.2.2.append a.2.1.last (ar x)).2)else(0,⟨a.2.1.size,a.2.1.aX,IntKind.wrap .i64 (a.2.1.bytes+((ar x).length:Nat)),a.2.1.next⟩,(a.2.2.append a.2.1.last (ar x)).2):Int×cY×ak).1=12)/\
   xl (if(a.2.2.append a.2.1.last (ar x)).1≠0 then((a.2.2.append a.2.1.last (ar x)).1,a.2.1,(a.2.2.append a.2.1.last (ar x)).2)else(0,⟨a.2.1.size,a.2.1.aX,IntKind.wrap .i64 (a.2.1.bytes+((ar x).length:Nat)),a.2.1.next⟩,(a.2.2.append a.2.1.last (ar x)).2):Int×cY×ak).2.1 (if(a.2.2.append a.2.1.last (ar x)).1≠0 then((a.2.2.append a.2.1.last (ar x)).1,a.2.1,(a.2.2.append a.2.1.last (ar x)).2)else(0,⟨a.2.1.size,a.2.1.aX,IntKind.wrap .i64 (a.2.1.bytes+((ar x).length:Nat)),a.2.1.next⟩,(a.2.2.append a.2.1.last (ar x)).2):Int×cY×ak).2.2:=by
  intro a o c p u O v e q f;rw [cE.rQ e];obtain⟨s,I,_⟩:=v.last;obtain⟨w,r⟩:=q.append (au c) (ar x);have r:=r _ I;have y:∀d,a.2.1.next<=d->d<1000000000000->ay (a.2.2.append (au c) (ar x)).2.files (au d)=none:=λd z B=>by
   rcases lA a.2.2 (au c) (ar x)with⟨J,t⟩|⟨J,P,Q,t⟩
   ·rw [t];exact f d z B
   ·have:=v.mL;have:=e.next
    rw [t,bu,if_neg (by simpa using λK=>by have:=gi (a:=c) oM K;omega)];exact f d z B
  split
  ·exact⟨w,r.imp id .inr,y⟩
  ·exact⟨w,.inl rfl,y⟩
 by_cases i:V.size<=V.bytes
 ·rw [if_pos i]
  obtain⟨C,L,E⟩:=m.Kd n g h H
  by_cases j:(aG V D).1=0
  ·rw [if_neg (by simpa using j)]
   rcases m.begin n with⟨F,-⟩|⟨F,R,M,N,S⟩
   ·exact absurd j F
   ·exact b _ _ _ _ _ j M N C E
  ·rw [if_pos j];exact⟨C,L,E⟩
 ·rw [if_neg i,if_neg (λi:((0,V,D):Int×cY×ak).1≠0=>i rfl)]
  exact b (0,V,D) _ _ _ _ rfl m n g h
end
section
variable {D E:ak} {A:oA} {no:Int} {l x:List ah} {k j n s:Nat} {V:cY}
theorem Ke (b:Nat) (a:Int):aM (eS b) a=⟨(bF ⟨a,[],0,1⟩ (eS b)).1,[],(bF ⟨a,[],0,1⟩ (eS b)).2.1,(bF ⟨a,[],0,1⟩ (eS b)).2.2⟩:=by
 have c:iq (eS b)=1:=by simp [iq,tX,ak.list,eS,tP]
 have d:told (eS b)=[]:=by
  have:(eS b).read cg=([],14):=by simp [ak.read,eS,ay]
  unfold told dR;rw [this];rfl
 have e:(dY (eS b) a)=⟨a,[],0,1⟩:=by unfold dY;rw [c]
 unfold aM;rw [d,e];unfold cZ gj;rw [if_neg sM,if_pos rfl];unfold aG;rw [if_pos rfl]
theorem rR (b:Nat) (a:Int):((aM (eS b) a).no=3\/(aM (eS b) a).no=12)\/
  ((aM (eS b) a).no=0/\(aM (eS b) a).out=[]/\cE (aM (eS b) a).D [] 1 [] 0/\AV (aM (eS b) a).V [] 1 []/\(aM (eS b) a).V.size=a/\(aM (eS b) a).V.next=2/\bK (aM (eS b) a).D/\xl (aM (eS b) a).V (aM (eS b) a).D):=by
 have g:bK (eS b):=⟨rfl,rfl⟩
 have e:Tidy (eS b).files:=by simp [Tidy,eS]
 rw [Ke];obtain⟨h,i,t⟩:=xk (V:=⟨a,[],0,1⟩) g e ⟨sM,sM⟩ (by simp [eS,ay]);rcases vl (D:=eS b) (V:=⟨a,[],0,1⟩) e sM with⟨d,j,k,l⟩|⟨d,j,k,l,c,m,n,o,p⟩
 ·exact .inl (i.resolve_left d)
 ·refine .inr ⟨d,rfl,⟨m,sM,⟨0,n,by simp [ar],Qj _⟩,Q4 _,o,by simp [dt],by simp [dt],by simp [cI],sM⟩,⟨by rw [c];rfl,by rw [c];rfl,by rw [c];simp⟩,by rw [c],by rw [c];rfl,h,?_⟩
  show xl (bF ⟨a,[],0,1⟩ (eS b)).2.1 (bF ⟨a,[],0,1⟩ (eS b)).2.2;rw [c];intro q r u;simp only at r;have f:=fk (n:=q) (.inr oM);rw [p _ (λs=>by have:=gi (a:=1) oM s;omega) f.2 f.1];simp [eS,ay]
end
end Go.Proofs.YtfchlbaidamodaaGreatDoor

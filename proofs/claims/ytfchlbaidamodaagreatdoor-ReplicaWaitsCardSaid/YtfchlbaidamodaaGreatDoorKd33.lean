import Derived.Test.YtfchlbaidamodaaGreatDoorKd26
set_option linter.all false
set_option maxRecDepth 20000
namespace Go.Proofs.YtfchlbaidamodaaGreatDoor
open Go.ax
section
variable {D E:ak} {A:oA} {no:Int} {l x:List ah} {k j n s:Nat} {V:cY}
theorem xk (t:bK D) (u:Tidy D.files) (c:0<=V.next/\V.next<1000000000000) (d:ay D.files (au V.next)=none):
  bK (bF V D).2.2/\((bF V D).1=0\/(bF V D).1=3\/(bF V D).1=12)/\((bF V D).1≠0->ay (bF V D).2.2.files (au V.next)=none):=by
 obtain⟨y,nt⟩:=fk (n:=V.next) (.inr c);unfold bF;dsimp only;rw [show cR (aB V.next)=au V.next from rfl];obtain⟨e,f⟩:=t.create (au V.next);have f:=f ((uy c.1).2 c.2) d;rcases lz D (au V.next)with⟨g,m⟩|⟨g,m,z,n⟩
 ·rw [if_pos g]
  exact⟨e,f.imp id .inr,λ_=>by show ay (D.create _).2.files _=none;rw [m];exact d⟩
 rw [if_neg (show¬(D.create (au V.next)).1≠0 by simpa using g)];have h:uz (au V.next) D (D.create (au V.next)).2:=(uz.refl u).put n;have o:ay (D.create (au V.next)).2.files (au V.next)=some ⟨[],0,false⟩:=by rw [n,bu];simp
 generalize(D.create (au V.next)).2=b at h o e;unfold m_;dsimp only;rw [show cR (aB V.next)=au V.next from rfl];obtain⟨p,i⟩:=e.sync (au V.next);have i:=i _ o;rw [if_neg (show¬(b.sync (au V.next)).1≠0 by simpa using i)];have j:Tidy (b.sync (au V.next)).2.files:=by
  rcases iL b (au V.next)with⟨k,a⟩|⟨k,A,d,a⟩
  ·rw [a];exact h.1
  ·rw [a];exact h.1.aJ _ _
 generalize(b.sync (au V.next)).2=l at j p;obtain⟨q,v⟩:=p.bJ j (V.aX++[V.next]);have mt:Tidy (bJ l (V.aX++[V.next])).2.files:=by
  rcases Lx j (V.aX++[V.next])with⟨-,r,-⟩|⟨-,-,r,-⟩<;>exact r
 by_cases s:(bJ l (V.aX++[V.next])).1=0
 ·rw [if_neg (by simpa using s)]
  exact⟨q,.inl rfl,λw=>absurd rfl w⟩
 ·rw [if_pos s]
  obtain⟨k,a⟩:=q.delete (au V.next);refine⟨k,v,λ_=>?_⟩;show ay ((bJ l (V.aX++[V.next])).2.delete (au V.next)).2.files _=none;rcases a with a|⟨a,x⟩
  ·rw [a,gh mt];simp
  ·rw [x];exact a
def xl (V:cY) (D:ak):Prop:=∀a,V.next<=a->a<1000000000000->ay D.files (au a)=none
end
section
variable {D E:ak} {A:oA} {no:Int} {l x:List ah} {k j n s:Nat} {V:cY}
theorem Ke (b:Nat) (a:Int):aM (eS b) a=⟨(bF ⟨a,[],0,1⟩ (eS b)).1,[],(bF ⟨a,[],0,1⟩ (eS b)).2.1,(bF ⟨a,[],0,1⟩ (eS b)).2.2⟩:=by
 have c:iq (eS b)=1:=by simp [iq,tX,ak.list,eS,tP]
 have d:told (eS b)=[]:=by
  have:(eS b).read cg=([],14):=by simp [ak.read,eS,ay]
  unfold told dR;rw [this];rfl
 have e:(dY (eS b) a)=⟨a,[],0,1⟩:=by unfold dY;rw [c]
 unfold aM;rw [d,e];unfold cZ gj;rw [if_neg sM,if_pos rfl];unfold aG;rw [if_pos rfl]
theorem rR (b:Nat) (a:Int):((aM (eS b) a).no=3\/(aM (eS b) a).no=12)\/
  ((aM (eS b) a).no=0/\(aM (eS b) a).out=[]/\cE (aM (eS b) a).D [] 1 [] 0/\AV (aM (eS b) a).V [] 1 []/\(aM (eS b) a).V.size=a/\(aM (eS b) a).V.next=2/\bK (aM (eS b) a).D/\xl (aM (eS b) a).V (aM (eS b) a).D):=by
 have g:bK (eS b):=⟨rfl,rfl⟩
 have e:Tidy (eS b).files:=by simp [Tidy,eS]
 rw [Ke];obtain⟨h,i,t⟩:=xk (V:=⟨a,[],0,1⟩) g e ⟨sM,sM⟩ (by simp [eS,ay]);rcases vl (D:=eS b) (V:=⟨a,[],0,1⟩) e sM with⟨d,j,k,l⟩|⟨d,j,k,l,c,m,n,o,p⟩
 ·exact .inl (i.resolve_left d)
 ·refine .inr ⟨d,rfl,⟨m,sM,⟨0,n,by simp [ar],Qj _⟩,Q4 _,o,by simp [dt],by simp [dt],by simp [cI],sM⟩,⟨by rw [c];rfl,by rw [c];rfl,by rw [c];simp⟩,by rw [c],by rw [c];rfl,h,?_⟩
  show xl (bF ⟨a,[],0,1⟩ (eS b)).2.1 (bF ⟨a,[],0,1⟩ (eS b)).2.2;rw [c];intro q r u;simp only at r;have f:=fk (n:=q) (.inr oM);rw [p _ (λs=>by have:=gi (a:=1) oM s;omega) f.2 f.1];simp [eS,ay]
end
end Go.Proofs.YtfchlbaidamodaaGreatDoor

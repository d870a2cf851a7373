import Derived.Test.YtblabbpipmodgaaGreatDoorKn17
set_option maxHeartbeats 4000000
set_option linter.all false
set_option maxRecDepth 20000
namespace Go.Proofs.YtblabbpipmodgaaGreatDoor
open Go.aw
section
variable {D E:al} {A:HW} {no:Int} {l x:List aj} {k j n s:Nat} {V:dS}
def CZ(s:cG D)(t:Tidy D.files)(b:0<=V.next/\V.next<1000000000000)(c:az D.files (aF V.next)=none):
  cG (bZ V D).2.2/\((bZ V D).1=0\/(bZ V D).1=3\/(bZ V D).1=12)/\((bZ V D).1≠0->az (bZ V D).2.2.files (aF V.next)=none):=by
 obtain⟨x,nt⟩:=tN (n:=V.next) (.inr b);unfold bZ;dsimp only;rw[show dV (aM V.next)=aF V.next from rfl];obtain⟨d,e⟩:=s.create (aF V.next);have e:=e ((yR b.1).2 b.2) c;rcases mr D (aF V.next)with⟨f,l⟩|⟨f,l,y,m⟩
 ·rw[Zx f]
  exact⟨d,e.imp id .inr,λ_=>by show az (D.create _).2.files _=none;rw[l];exact c⟩
 rw[Zq (show¬(D.create (aF V.next)).1≠0 by simpa using f)];have g:uP (aF V.next) D (D.create (aF V.next)).2:=(uP.refl t).put m;have n:az (D.create (aF V.next)).2.files (aF V.next)=some ⟨[],0,false⟩:=by rw[m,b_];simp
 generalize(D.create (aF V.next)).2=a at g n d;unfold kV;dsimp only;rw[show dV (aM V.next)=aF V.next from rfl];obtain⟨o,h⟩:=d.sync (aF V.next);have h:=h _ n;rw[Zq (show¬(a.sync (aF V.next)).1≠0 by simpa using h)];have i:Tidy (a.sync (aF V.next)).2.files:=by
  rcases oy a (aF V.next)with⟨j,P⟩|⟨j,z,c,P⟩
  ·rw[P];exact g.1
  ·rw[P];exact g.1.aG _ _
 generalize(a.sync (aF V.next)).2=k at i o;obtain⟨p,u⟩:=o.bH i (V.bD++[V.next]);have mt:Tidy (bH k (V.bD++[V.next])).2.files:=by
  rcases Mc i (V.bD++[V.next])with⟨-,q,-⟩|⟨-,-,q,-⟩<;>exact q
 by_cases r:(bH k (V.bD++[V.next])).1=0
 ·rw[Zq (by simpa using r)]
  exact⟨p,.inl rfl,λv=>Zz rfl v⟩
 ·rw[Zx r]
  obtain⟨j,P⟩:=p.delete (aF V.next);refine⟨j,u,λ_=>?_⟩;show az ((bH k (V.bD++[V.next])).2.delete (aF V.next)).2.files _=none;rcases P with P|⟨P,w⟩
  ·rw[P,jh mt];simp
  ·rw[w];exact P
def PT(V:dS)(D:al):Prop:=∀P,V.next<=P->P<1000000000000->az D.files (aF P)=none
end
section
variable {D E:al} {A:HW} {no:Int} {l x:List aj} {k j n s:Nat} {V:dS}
def Fh(a:Nat)(P:Int):br (et a) P=⟨(bZ ⟨P,[],0,1⟩ (et a)).1,[],(bZ ⟨P,[],0,1⟩ (et a)).2.1,(bZ ⟨P,[],0,1⟩ (et a)).2.2⟩:=by
 have b:tA (et a)=1:=by simp[tA,tL,al.list,et,qC]
 have c:told (et a)=[]:=by
  have:(et a).read cQ=([],14):=by simp[al.read,et,az]
  unfold told fr;rw[this];rfl
 have d:(lM (et a) P)=⟨P,[],0,1⟩:=by unfold lM;rw[b]
 unfold br;rw[c,d];unfold ie ki;rw[Zq sM,Zx rfl];unfold aX;rw[Zx rfl]
def Fj(a:Nat)(P:Int):((br (et a) P).no=3\/(br (et a) P).no=12)\/
  ((br (et a) P).no=0/\(br (et a) P).out=[]/\i_ (br (et a) P).D [] 1 [] 0/\SG (br (et a) P).V [] 1 []/\(br (et a) P).V.size=P/\(br (et a) P).V.next=2/\cG (br (et a) P).D/\PT (br (et a) P).V (br (et a) P).D):=by
 have f:cG (et a):=⟨rfl,rfl⟩
 have d:Tidy (et a).files:=by simp[Tidy,et]
 rw[Fh];obtain⟨g,h,s⟩:=CZ (V:=⟨P,[],0,1⟩) f d ⟨sM,sM⟩ (by simp[et,az]);rcases HY (D:=et a) (V:=⟨P,[],0,1⟩) d sM with⟨c,i,j,k⟩|⟨c,i,j,k,b,l,m,n,o⟩
 ·exact .inl (h.resolve_left c)
 ·refine .inr ⟨c,rfl,⟨l,sM,⟨0,m,by simp[bk],Qj _⟩,Q4 _,n,by simp[HX],by simp[HX],by simp[PR],sM⟩,⟨by rw[b];rfl,by rw[b];rfl,by rw[b];simp⟩,by rw[b],by rw[b];rfl,g,?_⟩
  show PT (bZ ⟨P,[],0,1⟩ (et a)).2.1 (bZ ⟨P,[],0,1⟩ (et a)).2.2;rw[b];intro p q t;simp only at q;have e:=tN (n:=p) (.inr oM);rw[o _ (λr=>by have:=Bz (a:=1) oM r;omega) e.2 e.1];simp[et,az]

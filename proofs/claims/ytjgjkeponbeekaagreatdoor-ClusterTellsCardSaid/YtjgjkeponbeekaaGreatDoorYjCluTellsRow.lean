import Derived.Test.YtjgjkeponbeekaaGreatDoorKj21
import Derived.Test.YtjgjkeponbeekaaGreatDoorYjLaidRow7
set_option linter.all false
namespace Go.Proofs.YtjgjkeponbeekaaGreatDoor.bP
open Go.aw Go.ChangeShapes Go.WideShapes Go.ChangeAt Go.RowKit
def own:ownKnob Tryz.prog.godebug=none:=kR
set_option maxRecDepth 100000 in
theorem lifted(c:Os)(P:c.Started)(t:Type)(a:TypeId×Value->t):
  ReturnsInHanded {} Tryz.checked c 3 .any (λb n=>(Rows.clusterTellsSpec.pre a LL Tryz.f3 [] false b n/\laidMetH LL IJ b)/\sizedMet a LL Tryz.f3 (OpenSpec.ofChange Rows.clusterTellsSpec) false b n)
   (Rows.clusterTellsSpec.post a LL Tryz.f3 false true false false):=by
 refine returnsInHanded_of_change_and (C:=Tryz.checked) (X:=λb _=>laidMetH LL IJ b) (λ_ _ _ u d=>d.of_heap u) own P kR Tryz.func3
  (ChangeSpec.witness_shaped (enc:=a) (C:=Tryz.checked) (os:=c) (X:=λb _=>laidMetH LL IJ b) false (World.doorLaid LL 400 c) #[.agg #[WP 0,WP 0,WP 0,WP 0,WP 0,WP 0,WP 0,WP 0,.slice none 0 0,.slice none 0 0,.slice none 0 0]] 8 rfl (World.shaped_of_RefB kR kR) kR kR kR (Xs c _)) ?_
 intro k e n l v f w m Z x g _;obtain⟨g,y⟩:=RG g;have o:∀(j:Nat) p h,Tryz.f3.params[j]? =some p->n[j]? =some h->Value.okWide LL k .any e p h:=w;have q:(DataW.weightsEach LL (Tryz.f3.params.toList++Rows.clusterTellsSpec.plain.varTypes LL) (l++v)).all (·<=reachBytes)=true:=x;have z:=m;obtain⟨A,a0,B,C,rfl,a5,a6⟩:=m;have r:DataW.TrodAll a LL k 0 (λ_=>true) true Tryz.f3.params.toList n.toList l A:=B;rw[Tryz.params3]at r o q;obtain⟨s,a7,d0,a8,p0,q0,a1,rfl,rfl,E,F⟩:=trodAll_cons r;obtain⟨rfl,rfl,rfl⟩:=trodAll_nil F;obtain rfl:n= #[s]:=by cases n;simp_all
 obtain⟨rfl,rfl⟩:=trodVars_none C;obtain⟨⟨H,y0⟩,I,rfl,J,K,L,M,N,O,Q,R,S,T,U,i,V⟩:=RH Tryz.underlying30 Lx (o 0 30 s rfl rfl) E (RI q (j:=0) rfl rfl);obtain rfl:I=(ly H J K L M N O Q R S).toArray:=Array.toList_inj.1 T;refine(t_ y g U (λ_ d=>d) V (λ_ d=>d) i.bj i.every i.start).mono λa2 W' ⟨h,W,X,Y⟩=>?_;subst W;subst X;exact⟨_,rfl,OM (tb:=4) kR rfl Tryz.underlying4 rfl rfl rfl rfl kR z Y⟩

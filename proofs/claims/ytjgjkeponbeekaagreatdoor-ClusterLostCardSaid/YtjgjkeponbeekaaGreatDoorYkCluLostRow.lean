import Derived.Test.YtjgjkeponbeekaaGreatDoorKk21
import Derived.Test.YtjgjkeponbeekaaGreatDoorYkLaidRow7
set_option linter.all false
namespace Go.Proofs.YtjgjkeponbeekaaGreatDoor.cg
open Go.aw Go.ChangeShapes Go.WideShapes Go.ChangeAt Go.RowKit
def own:ownKnob Tryz.prog.godebug=none:=kR
set_option maxRecDepth 100000 in
theorem lifted(c:Os)(P:c.Started)(t:Type)(a:TypeId×Value->t):
  ReturnsInHanded {} Tryz.checked c 5 .any (λb n=>(Rows.clusterLostSpec.pre a ZP Tryz.f5 [] false b n/\laidMetH ZP Il b)/\sizedMet a ZP Tryz.f5 (OpenSpec.ofChange Rows.clusterLostSpec) false b n)
   (Rows.clusterLostSpec.post a ZP Tryz.f5 false true false false):=by
 refine returnsInHanded_of_change_and (C:=Tryz.checked) (X:=λb _=>laidMetH ZP Il b) (λ_ _ _ u d=>d.of_heap u) own P kR Tryz.func5
  (ChangeSpec.witness_shaped (enc:=a) (C:=Tryz.checked) (os:=c) (X:=λb _=>laidMetH ZP Il b) false (World.doorLaid ZP 400 c) #[.agg #[ZH 0,ZH 0,ZH 0,ZH 0,ZH 0,ZH 0,ZH 0,ZH 0,.slice none 0 0,.slice none 0 0,.slice none 0 0]] 8 rfl (World.shaped_of_RefB kR kR) kR kR kR (WD c _)) ?_
 intro k e n l v f w m Z x g _;obtain⟨g,y⟩:=QU g;have o:∀(j:Nat) p h,Tryz.f5.params[j]? =some p->n[j]? =some h->Value.okWide ZP k .any e p h:=w;have q:(DataW.weightsEach ZP (Tryz.f5.params.toList++Rows.clusterLostSpec.plain.varTypes ZP) (l++v)).all (·<=reachBytes)=true:=x;have z:=m;obtain⟨A,a0,B,C,rfl,a5,a6⟩:=m;have r:DataW.TrodAll a ZP k 0 (λ_=>true) true Tryz.f5.params.toList n.toList l A:=B;rw[Tryz.params5]at r o q;obtain⟨s,a7,d0,a8,p0,q0,a1,rfl,rfl,E,F⟩:=trodAll_cons r;obtain⟨rfl,rfl,rfl⟩:=trodAll_nil F;obtain rfl:n= #[s]:=by cases n;simp_all
 obtain⟨rfl,rfl⟩:=trodVars_none C;obtain⟨⟨H,y0⟩,I,rfl,J,K,L,M,N,O,Q,R,S,T,U,i,V⟩:=Q_ Tryz.underlying30 KU (o 0 30 s rfl rfl) E (Ra q (j:=0) rfl rfl);obtain rfl:I=(lu H J K L M N O Q R S).toArray:=Array.toList_inj.1 T;refine(uZ y g U (λ_ d=>d) V (λ_ d=>d) i.bh i.every i.start).mono λa2 W' ⟨h,W,X,Y⟩=>?_;subst W;subst X;exact⟨_,rfl,Of (tb:=4) kR rfl Tryz.underlying4 rfl rfl rfl rfl kR z Y⟩

import Derived.Test.YtjgjkeponbeekaaGreatDoorKl21
import Derived.Test.YtjgjkeponbeekaaGreatDoorYlLaidRow7
set_option linter.all false
namespace Go.Proofs.YtjgjkeponbeekaaGreatDoor.cF
open Go.au Go.ChangeShapes Go.WideShapes Go.ChangeAt Go.RowKit
def own:ownKnob Tryz.prog.godebug=none:=kR
set_option maxRecDepth 100000 in
theorem lifted(c:Os)(P:c.Started)(t:Type)(a:TypeId×Value->t):
  ReturnsInHanded {} Tryz.checked c 6 .any (λb n=>(Rows.clusterIsSpec.pre a ZP Tryz.f6 [] false b n/\laidMetH ZP HS b)/\sizedMet a ZP Tryz.f6 (OpenSpec.ofChange Rows.clusterIsSpec) false b n)
   (Rows.clusterIsSpec.post a ZP Tryz.f6 false true false false):=by
 refine returnsInHanded_of_change_and (C:=Tryz.checked) (X:=λb _=>laidMetH ZP HS b) (λ_ _ _ u d=>d.of_heap u) own P kR Tryz.func6
  (ChangeSpec.witness_shaped (enc:=a) (C:=Tryz.checked) (os:=c) (X:=λb _=>laidMetH ZP HS b) false (World.doorLaid ZP 400 c) #[.agg #[ZH 0,ZH 0,ZH 0,ZH 0,ZH 0,ZH 0,ZH 0,ZH 0,.slice none 0 0,.slice none 0 0,.slice none 0 0]] 8 rfl (World.shaped_of_RefB kR kR) kR kR kR (Vn c _)) ?_
 intro k e n l v f w m Z x g _;obtain⟨g,y⟩:=Pz g;have o:∀(j:Nat) p h,Tryz.f6.params[j]? =some p->n[j]? =some h->Value.okWide ZP k .any e p h:=w;have q:(DataW.weightsEach ZP (Tryz.f6.params.toList++Rows.clusterIsSpec.plain.varTypes ZP) (l++v)).all (·<=reachBytes)=true:=x;have z:=m;obtain⟨A,a0,B,C,rfl,a5,a6⟩:=m;have r:DataW.TrodAll a ZP k 0 (λ_=>true) true Tryz.f6.params.toList n.toList l A:=B;rw[Tryz.params6]at r o q;obtain⟨s,a7,d0,a8,p0,q0,a1,rfl,rfl,E,F⟩:=trodAll_cons r;obtain⟨rfl,rfl,rfl⟩:=trodAll_nil F;obtain rfl:n= #[s]:=by cases n;simp_all
 obtain⟨rfl,rfl⟩:=trodVars_none C;obtain⟨⟨H,y0⟩,I,rfl,J,K,L,M,N,O,Q,R,S,T,U,i,V⟩:=PB Tryz.underlying30 Km (o 0 30 s rfl rfl) E (PD q (j:=0) rfl rfl);obtain rfl:I=(ko H J K L M N O Q R S).toArray:=Array.toList_inj.1 T;refine(yG y g U (λ_ d=>d) V (λ_ d=>d) i.bU i.every i.start).mono λa2 W' ⟨h,W,X,Y⟩=>?_;subst W;subst X;exact⟨_,rfl,Ni (tb:=4) kR rfl Tryz.underlying4 rfl rfl rfl rfl kR z Y⟩

import Derived.Test.YtblabbpipmodgaaGreatDoorKn23
import Derived.Test.YtblabbpipmodgaaGreatDoorYnLaidRow7
set_option linter.all false
namespace Go.Proofs.YtblabbpipmodgaaGreatDoor.bt
open Go.aw Go.ChangeShapes Go.WideShapes Go.ChangeAt Go.RowKit
def own:ownKnob Tryz.prog.godebug=none:=kR
set_option maxRecDepth 100000 in
theorem lifted(e:Os)(a:e.Started)(u:Type)(b:TypeId×Value->u):
  ReturnsInHanded {} Tryz.checked e 3 .any (λc P=>(Rows.replicaWaitsSpec.pre b XP Tryz.f3 [] false c P/\laidMetH XP EP c)/\sizedMet b XP Tryz.f3 (OpenSpec.ofChange Rows.replicaWaitsSpec) false c P)
   (Rows.replicaWaitsSpec.post b XP Tryz.f3 false true false false):=by
 refine returnsInHanded_of_change_and (C:=Tryz.checked) (X:=λc _=>laidMetH XP EP c) (λ_ _ _ v d=>d.of_heap v) own a kR Tryz.func3
  (ChangeSpec.witness_shaped (enc:=b) (C:=Tryz.checked) (os:=e) (X:=λc _=>laidMetH XP EP c) false (World.doorLaid XP 400 e) #[.agg #[.slice none 0 0,.slice none 0 0],.slice none 0 0,.slice none 0 0] 8 rfl (World.shaped_of_RefB kR kR) kR kR kR (RX e _)) ?_
 intro m f P n w g x o a3 y k _;obtain⟨k,z⟩:=MF k;have h:∀(j:Nat) p l,Tryz.f3.params[j]? =some p->P[j]? =some l->Value.okWide XP m .any f p l:=x;have i:(DataW.weightsEach XP (Tryz.f3.params.toList++Rows.replicaWaitsSpec.plain.varTypes XP) (n++w)).all (·<=reachBytes)=true:=y;have A:=o;obtain⟨B,a0,C,E,rfl,a4,a5⟩:=o;have q:DataW.TrodAll b XP m 0 (λ_=>true) true Tryz.f3.params.toList P.toList n B:=C;rw[Tryz.params3]at q h i;obtain⟨r,a6,d0,a7,p0,q0,a1,rfl,rfl,F,H⟩:=trodAll_cons q;obtain⟨s,a8,d1,a9,p1,q1,rfl,rfl,rfl,I,J⟩:=trodAll_cons H;obtain⟨t,b0,d2,b1,p2,q2,rfl,rfl,rfl,K,L⟩:=trodAll_cons J;obtain⟨rfl,rfl,rfl⟩:=trodAll_nil L;obtain rfl:P= #[r,s,t]:=by cases P;simp_all
 obtain⟨rfl,rfl⟩:=trodVars_none E;obtain⟨x0,M,rfl,N,O,Q,R,S,T,U,V⟩:=Mv Tryz.underlying25 HE (h 0 25 r rfl rfl) F (yx i (j:=0) rfl rfl);obtain rfl:M= #[.slice N O Q,.slice R S T]:=Array.toList_inj.1 U;obtain⟨a2,n1,c1,x1,rfl,b2,b3,W⟩:=Mu Tryz.underlying26 kR dC kR (Ks) (h 1 26 s rfl rfl) I (yx i (j:=1) rfl rfl);obtain⟨b4,n2,c2,x2,rfl,b5,b6,X⟩:=Mu Tryz.underlying27 kR dC kR (Ko Tryz.underlying3) (h 2 27 t rfl rfl) K (yx i (j:=2) rfl rfl);refine(rX z k V (λ_ d=>d) W (λ_ d=>d) X (λ_ d=>d)).mono λb7 W' ⟨l,Y,Z,hk⟩=>?_;subst Y;subst Z;exact⟨_,rfl,Kp (tb:=4) kR rfl Tryz.underlying4 rfl rfl rfl rfl kR A hk⟩
